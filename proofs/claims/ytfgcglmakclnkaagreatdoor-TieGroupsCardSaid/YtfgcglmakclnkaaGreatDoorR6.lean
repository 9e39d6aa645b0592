/- A framework for walks, contracts of functions, and their proofs: part 6. -/
import Derived.Test.YtfgcglmakclnkaaGreatDoorR5
set_option linter.unusedVariables false
namespace Go.Proofs.Tryz
open Go Go.V Go.Proofs
def hAt (fi la:Int) (k:Nat):Int:=if la < fi then fi - k else fi + k
def hN (fi la:Int):Nat:=(la - fi).natAbs
def strK (fi la:Int) (n:Nat):List Int:=(List.range n).map fun k=>hAt fi la k
def backK (fi la:Int) (m:Nat) (n:Nat):List Int:=(List.range n).map fun k=>hAt fi la (m - 1 - k)
def hooksG (fi la wy:Int):List Int:=strK fi la (hN fi la + 1)++(if wy=2 then backK fi la (hN fi la) (hN fi la - 1) else [])
abbrev Grp:=Int × Int × Int × Int
def mkOne (x:Grp):List Int:=repL (hooksG x.1 x.2.1 x.2.2.1) x.2.2.2.toNat
def mkW (g:List Grp):List Int:=(g.map mkOne).flatten
def mkBad (hk:Int) (x:Grp):Bool:=!inI x.1 0 (hk - 1) || !inI x.2.1 0 (hk - 1) || !inI x.2.2.1 1 2 || !inI x.2.2.2 1 8
def mkStop (hk:Int) (g:List Grp) (i:Nat):Bool:=mkBad hk (g.getD i (0,(0,(0,0)))) || decide (96 < (mkW (g.take (i + 1))).length)
def mkAt (hk:Int) (g:List Grp):Option Nat:=(List.range g.length).find? (mkStop hk g)
def mkErr (hk:Int) (g:List Grp):Int:=if !inI hk 1 24 then 2 else if 8 < g.length then 5 else if g.length=0 then 7 else match mkAt hk g with | none=>0 | some i=>if mkBad hk (g.getD i (0,(0,(0,0)))) then 2 else 8
def mkI (hk:Int) (g:List Grp):Int:=if !inI hk 1 24 || decide (8 < g.length) then 0 else match mkAt hk g with | none=>0 | some i=>(i:Int)
theorem strK_succ (fi la:Int) (n:Nat):strK fi la (n + 1)=strK fi la n++[hAt fi la n]:=by
 simp only [strK,List.range_succ,List.map_append,List.map_cons,List.map_nil]
theorem backK_succ (fi la:Int) (m n:Nat):backK fi la m (n + 1)=backK fi la m n++[hAt fi la (m - 1 - n)]:=by
 simp only [backK,List.range_succ,List.map_append,List.map_cons,List.map_nil]
theorem strK_length (fi la:Int) (n:Nat):(strK fi la n).length=n:=by simp [strK]
theorem backK_length (fi la:Int) (m n:Nat):(backK fi la m n).length=n:=by simp [backK]
theorem strK_at {fi la:Int} {n k:Nat} (h:k < n) (t:List Int):(strK fi la n++t).getD k 0=hAt fi la k:=by
 rw [List.getD_eq_getElem?_getD,List.getElem?_append_left (by rw [strK_length]; exact h)]
 simp [strK,h]
theorem hAt_end {fi la:Int} {k:Nat} (hk:k ≤ hN fi la):hAt fi la k=la ↔ k=hN fi la:=by
 unfold hAt hN at *; split <;> omega
theorem hooksG_length {fi la wy:Int} (h:0 ≤ fi∧fi < 24∧0 ≤ la∧la < 24):0 < (hooksG fi la wy).length∧(hooksG fi la wy).length ≤ 48:=by
 have:hN fi la ≤ 24:=by unfold hN; omega
 unfold hooksG
 split <;> simp only [List.length_append,strK_length,backK_length,List.length_nil] <;> omega
theorem mkW_take {g:List Grp} {i:Nat} (h:i < g.length):mkW (g.take (i + 1))=mkW (g.take i)++mkOne (g.getD i (0,(0,(0,0)))):=by
 rw [take_succ_eq h,getD_nat h]
 simp only [mkW,List.map_append,List.flatten_append,List.map_cons,List.map_nil,List.flatten_cons,List.flatten_nil,List.append_nil]
theorem mkAt_some {hk:Int} {g:List Grp} {i:Nat} (h:i < g.length) (hs:mkStop hk g i=true) (hJ:∀ j,j < i→mkStop hk g j=false):mkAt hk g=some i :=
 List.find?_range_eq_some.2 ⟨hs,by simpa using h,fun j hj=>by simpa using hJ j hj⟩
theorem mkAt_none {hk:Int} {g:List Grp} (hJ:∀ j,j < g.length→mkStop hk g j=false):mkAt hk g=none:=by
 simp only [mkAt,List.find?_range_eq_none,Bool.not_eq_true']; exact hJ
theorem mkLen {hk:Int} {g:List Grp} {i:Nat} (h:i ≤ g.length) (hJ:∀ j,j < i→mkStop hk g j=false):(mkW (g.take i)).length ≤ 96:=by
 cases i with
 | zero=>simp [mkW]
 | succ i =>
  have:=hJ i (by omega)
  simp only [mkStop,Bool.or_eq_false_iff,decide_eq_false_iff_not] at this
  omega
theorem mkErr_mkI {hk:Int} {g:List Grp} (h1:inI hk 1 24=true) (h2:¬ 8 < g.length) (h3:¬ g.length=0) :
  mkErr hk g=(match mkAt hk g with | none=>0 | some i=>if mkBad hk (g.getD i (0,(0,(0,0)))) then 2 else 8)∧mkI hk g=(match mkAt hk g with | none=>0 | some i=>(i:Int)):=by
 simp [mkErr,mkI,h1,h2,h3]
theorem mkBad_false {hk:Int} {x:Grp} (h:mkBad hk x=false) (hk1:inI hk 1 24=true):(0 ≤ x.1∧x.1 < 24∧0 ≤ x.2.1∧x.2.1 < 24)∧1 ≤ x.2.2.1∧x.2.2.1 ≤ 2∧1 ≤ x.2.2.2∧x.2.2.2 ≤ 8:=by
 simp [mkBad,inI] at h hk1
 omega
theorem mkBad_any (hk a b w t:Int):((!(!([a,b].any fun n=>decide (n < 0) || decide (hk - 1 < n))) || (w != 1 && w != 2)) || (!(!([t].any fun n=>decide (n < 1) || decide (8 < n)))))=mkBad hk (a,(b,(w,t))):=by
 rw [Bool.eq_iff_iff]
 simp [mkBad,inI]
 omega
theorem isEmpty_app (a b:List Int):(List.isEmpty b && List.isEmpty a)=List.isEmpty (a++b):=by
 cases a <;> cases b <;> simp
def al_tie_group_hooks:AL (Int × Int × Int × Int):=(.one (.agg (.cons (.k (.i .i64)) (.cons (.k (.i .i64)) (.cons (.k (.i .i64)) (.one (.k (.i .i64))))))))
def pre_tie_group_hooks (d:Int × Int × Int × Int):Prop:=0 ≤ d.1∧d.1 < 24∧0 ≤ d.2.1∧d.2.1 < 24
def res_tie_group_hooks (d:Int × Int × Int × Int):SV:=.lst 0
def obs_tie_group_hooks (d:Int × Int × Int × Int):List OB:=[.lst 3 (.i .i64) (hooksG d.1 d.2.1 d.2.2.1) false]
def s_tie_group_hooks:CSp:=mkSp al_tie_group_hooks pre_tie_group_hooks res_tie_group_hooks obs_tie_group_hooks
def vc_tie_group_hooks (fi:Int) (la:Int) (wy:Int) (ti:Int):Prop :=
 ∀ w1:List Value,w1=w1∧∀ w2:List Value,∀ w3:List Value,∀ w4:LpD,((decide (la < fi))=true →
  ∃ (e8:Int × Int × Int × Int × Int × Int × Int × Int × Int × Int × Int × Int × Int × (List Value) × (List Value) × LpD) (d80:Int × (List Int)),((True∧True∧(-1:Int)=e8.2.1∧fi=d80.1∧True)∧((la=e8.1∧(([]:List SV)=[]))∧(e8.2.2.2.2.2.2.2.2.2.2.2.2.2.1=w2∧((fi=e8.2.2.1∧la=e8.2.2.2.1∧wy=e8.2.2.2.2.1∧ti=e8.2.2.2.2.2.1∧(([]:List SV)=[]))∧True∧True∧True∧True∧True∧True∧fi=e8.2.2.2.2.2.2.2.2.2.2.1∧True∧True∧la=e8.2.2.2.2.2.2.2.2.2.2.2.1∧(((([]:List SV)=[]))∧(True∧True∧(([]:List SV)=[])))∧True∧True∧True∧True∧True∧True∧True∧True∧True∧True∧True∧True∧True∧True∧True∧True∧True∧True∧True∧True∧(([]:List SV)=[])))∧(fi=e8.2.2.2.2.2.2.1∧la=e8.2.2.2.2.2.2.2.1∧wy=e8.2.2.2.2.2.2.2.2.1∧ti=e8.2.2.2.2.2.2.2.2.2.1∧(([]:List SV)=[]))∧(fi=e8.2.2.2.2.2.2.2.2.2.2.2.2.1∧(([]:List SV)=[]))∧(e8.2.2.2.2.2.2.2.2.2.2.2.2.2.2.1=w3∧((((([]:List SV)=[]))∧(True∧True∧(([]:List SV)=[])))∧True∧True∧(((([]:List SV)=[]))∧(True∧True∧(([]:List SV)=[])))∧True∧(([]:List SV)=[])))∧(e8.2.2.2.2.2.2.2.2.2.2.2.2.2.2.2=w4∧(True∧(((([]:List SV)=[]))∧(True∧True∧(([]:List SV)=[])))∧True∧True∧True∧True∧(((([]:List SV)=[]))∧(True∧True∧(([]:List SV)=[])))∧True∧True∧True∧True∧True∧True∧(([]:List SV)=[])))∧(True∧(([]:List SV)=[]))∧(d80.2=[]∧(List.isEmpty d80.2)=true)∧True)) ∧
  LoopP (fun (d8:Int × (List Int)) (q8:(Int × (List Int))→Prop) =>
   e8.2.2.2.2.2.2.2.2.2.2.2.2.2.2.2=w4∧∀ w9:List Value,(((List.length d8.2) + (List.length [d8.1])) * 8 ≤ 70368744177664)∧w9=w9∧e8.2.2.2.2.2.2.2.2.2.2.2.2.2.2.2=w4∧(((!true) || (d8.1 == e8.1))=true →
    e8.2.2.2.2.2.2.2.2.2.2.2.2.2.2.2=w4∧e8.2.2.2.2.2.2.2.2.2.2.2.2.2.2.1=w3∧e8.2.2.2.2.2.2.2.2.2.2.2.2.2.1=w2∧((e8.2.2.2.2.2.2.2.2.1 == (2:Int))=true →
     (I64 ((lI (d8.2++[d8.1])) - (2:Int)))∧∃ (e11:Unit) (d110:(List Int) × Int),((True∧((lI (d8.2++[d8.1])) - (2:Int))=d110.2∧True)∧(((d8.2++[d8.1])=d110.1∧false=false)∧True)) ∧
     LoopP (fun (d11:(List Int) × Int) (q11:((List Int) × Int)→Prop) =>
      ((decide (d11.2 > (0:Int)))=true →
       (0 ≤ d11.2)∧(d11.2 < (List.length d11.1))∧(((List.length d11.1) + (List.length [(gD d11.1 d11.2 0)])) * 8 ≤ 70368744177664)∧(I64 (d11.2 - (1:Int)))∧(∃ d12:(List Int) × Int,((True∧(d11.2 - (1:Int))=d12.2∧True)∧(((d11.1++[(gD d11.1 d11.2 0)])=d12.1∧false=false)∧True))∧q11 d12)) ∧
      ((decide (d11.2 > (0:Int)))=false →
       (True∧((d11.1=(hooksG fi la wy)∧false=false)∧True)))) d110) ∧
    ((e8.2.2.2.2.2.2.2.2.1 == (2:Int))=false →
     (True∧(((d8.2++[d8.1])=(hooksG fi la wy)∧false=false)∧True)))) ∧
   (((!true) || (d8.1 == e8.1))=false →
    (I64 (d8.1 + e8.2.1))∧(∃ d13:Int × (List Int),((True∧True∧e8.2.1=e8.2.1∧(d8.1 + e8.2.1)=d13.1∧True)∧((e8.1=e8.1∧(([]:List SV)=[]))∧(e8.2.2.2.2.2.2.2.2.2.2.2.2.2.1=e8.2.2.2.2.2.2.2.2.2.2.2.2.2.1∧((e8.2.2.1=e8.2.2.1∧e8.2.2.2.1=e8.2.2.2.1∧e8.2.2.2.2.1=e8.2.2.2.2.1∧e8.2.2.2.2.2.1=e8.2.2.2.2.2.1∧(([]:List SV)=[]))∧True∧True∧True∧True∧True∧True∧e8.2.2.2.2.2.2.2.2.2.2.1=e8.2.2.2.2.2.2.2.2.2.2.1∧True∧True∧e8.2.2.2.2.2.2.2.2.2.2.2.1=e8.2.2.2.2.2.2.2.2.2.2.2.1∧(((([]:List SV)=[]))∧(True∧True∧(([]:List SV)=[])))∧True∧True∧True∧True∧True∧True∧True∧True∧True∧True∧True∧True∧True∧True∧True∧True∧True∧True∧True∧True∧(([]:List SV)=[])))∧(e8.2.2.2.2.2.2.1=e8.2.2.2.2.2.2.1∧e8.2.2.2.2.2.2.2.1=e8.2.2.2.2.2.2.2.1∧e8.2.2.2.2.2.2.2.2.1=e8.2.2.2.2.2.2.2.2.1∧e8.2.2.2.2.2.2.2.2.2.1=e8.2.2.2.2.2.2.2.2.2.1∧(([]:List SV)=[]))∧(e8.2.2.2.2.2.2.2.2.2.2.2.2.1=e8.2.2.2.2.2.2.2.2.2.2.2.2.1∧(([]:List SV)=[]))∧(e8.2.2.2.2.2.2.2.2.2.2.2.2.2.2.1=e8.2.2.2.2.2.2.2.2.2.2.2.2.2.2.1∧((((([]:List SV)=[]))∧(True∧True∧(([]:List SV)=[])))∧True∧True∧(((([]:List SV)=[]))∧(True∧True∧(([]:List SV)=[])))∧True∧(([]:List SV)=[])))∧(e8.2.2.2.2.2.2.2.2.2.2.2.2.2.2.2=e8.2.2.2.2.2.2.2.2.2.2.2.2.2.2.2∧(True∧(((([]:List SV)=[]))∧(True∧True∧(([]:List SV)=[])))∧True∧True∧True∧True∧(((([]:List SV)=[]))∧(True∧True∧(([]:List SV)=[])))∧True∧True∧True∧True∧True∧True∧(([]:List SV)=[])))∧(True∧(([]:List SV)=[]))∧((d8.2++[d8.1])=d13.2∧false=(List.isEmpty d13.2))∧True))∧q8 d13))) d80) ∧
 ((decide (la < fi))=false →
  ∃ (e17:Int × Int × Int × Int × Int × Int × Int × Int × Int × Int × Int × Int × Int × (List Value) × (List Value) × LpD) (d170:Int × (List Int)),((True∧True∧(1:Int)=e17.2.1∧fi=d170.1∧True)∧((la=e17.1∧(([]:List SV)=[]))∧(e17.2.2.2.2.2.2.2.2.2.2.2.2.2.1=w2∧((fi=e17.2.2.1∧la=e17.2.2.2.1∧wy=e17.2.2.2.2.1∧ti=e17.2.2.2.2.2.1∧(([]:List SV)=[]))∧True∧True∧True∧True∧True∧True∧fi=e17.2.2.2.2.2.2.2.2.2.2.1∧True∧True∧la=e17.2.2.2.2.2.2.2.2.2.2.2.1∧(((([]:List SV)=[]))∧(True∧True∧(([]:List SV)=[])))∧True∧True∧True∧True∧True∧True∧True∧True∧True∧True∧True∧True∧True∧True∧True∧True∧True∧True∧True∧True∧(([]:List SV)=[])))∧(fi=e17.2.2.2.2.2.2.1∧la=e17.2.2.2.2.2.2.2.1∧wy=e17.2.2.2.2.2.2.2.2.1∧ti=e17.2.2.2.2.2.2.2.2.2.1∧(([]:List SV)=[]))∧(fi=e17.2.2.2.2.2.2.2.2.2.2.2.2.1∧(([]:List SV)=[]))∧(e17.2.2.2.2.2.2.2.2.2.2.2.2.2.2.1=w3∧((((([]:List SV)=[]))∧(True∧True∧(([]:List SV)=[])))∧True∧True∧(((([]:List SV)=[]))∧(True∧True∧(([]:List SV)=[])))∧True∧(([]:List SV)=[])))∧(e17.2.2.2.2.2.2.2.2.2.2.2.2.2.2.2=w4∧(True∧(((([]:List SV)=[]))∧(True∧True∧(([]:List SV)=[])))∧True∧True∧True∧True∧(((([]:List SV)=[]))∧(True∧True∧(([]:List SV)=[])))∧True∧True∧True∧True∧True∧True∧(([]:List SV)=[])))∧(True∧(([]:List SV)=[]))∧(d170.2=[]∧(List.isEmpty d170.2)=true)∧True)) ∧
  LoopP (fun (d17:Int × (List Int)) (q17:(Int × (List Int))→Prop) =>
   e17.2.2.2.2.2.2.2.2.2.2.2.2.2.2.2=w4∧∀ w18:List Value,(((List.length d17.2) + (List.length [d17.1])) * 8 ≤ 70368744177664)∧w18=w18∧e17.2.2.2.2.2.2.2.2.2.2.2.2.2.2.2=w4∧(((!true) || (d17.1 == e17.1))=true →
    e17.2.2.2.2.2.2.2.2.2.2.2.2.2.2.2=w4∧e17.2.2.2.2.2.2.2.2.2.2.2.2.2.2.1=w3∧e17.2.2.2.2.2.2.2.2.2.2.2.2.2.1=w2∧((e17.2.2.2.2.2.2.2.2.1 == (2:Int))=true →
     (I64 ((lI (d17.2++[d17.1])) - (2:Int)))∧∃ (e20:Unit) (d200:(List Int) × Int),((True∧((lI (d17.2++[d17.1])) - (2:Int))=d200.2∧True)∧(((d17.2++[d17.1])=d200.1∧false=false)∧True)) ∧
     LoopP (fun (d20:(List Int) × Int) (q20:((List Int) × Int)→Prop) =>
      ((decide (d20.2 > (0:Int)))=true →
       (0 ≤ d20.2)∧(d20.2 < (List.length d20.1))∧(((List.length d20.1) + (List.length [(gD d20.1 d20.2 0)])) * 8 ≤ 70368744177664)∧(I64 (d20.2 - (1:Int)))∧(∃ d21:(List Int) × Int,((True∧(d20.2 - (1:Int))=d21.2∧True)∧(((d20.1++[(gD d20.1 d20.2 0)])=d21.1∧false=false)∧True))∧q20 d21)) ∧
      ((decide (d20.2 > (0:Int)))=false →
       (True∧((d20.1=(hooksG fi la wy)∧false=false)∧True)))) d200) ∧
    ((e17.2.2.2.2.2.2.2.2.1 == (2:Int))=false →
     (True∧(((d17.2++[d17.1])=(hooksG fi la wy)∧false=false)∧True)))) ∧
   (((!true) || (d17.1 == e17.1))=false →
    (I64 (d17.1 + e17.2.1))∧(∃ d22:Int × (List Int),((True∧True∧e17.2.1=e17.2.1∧(d17.1 + e17.2.1)=d22.1∧True)∧((e17.1=e17.1∧(([]:List SV)=[]))∧(e17.2.2.2.2.2.2.2.2.2.2.2.2.2.1=e17.2.2.2.2.2.2.2.2.2.2.2.2.2.1∧((e17.2.2.1=e17.2.2.1∧e17.2.2.2.1=e17.2.2.2.1∧e17.2.2.2.2.1=e17.2.2.2.2.1∧e17.2.2.2.2.2.1=e17.2.2.2.2.2.1∧(([]:List SV)=[]))∧True∧True∧True∧True∧True∧True∧e17.2.2.2.2.2.2.2.2.2.2.1=e17.2.2.2.2.2.2.2.2.2.2.1∧True∧True∧e17.2.2.2.2.2.2.2.2.2.2.2.1=e17.2.2.2.2.2.2.2.2.2.2.2.1∧(((([]:List SV)=[]))∧(True∧True∧(([]:List SV)=[])))∧True∧True∧True∧True∧True∧True∧True∧True∧True∧True∧True∧True∧True∧True∧True∧True∧True∧True∧True∧True∧(([]:List SV)=[])))∧(e17.2.2.2.2.2.2.1=e17.2.2.2.2.2.2.1∧e17.2.2.2.2.2.2.2.1=e17.2.2.2.2.2.2.2.1∧e17.2.2.2.2.2.2.2.2.1=e17.2.2.2.2.2.2.2.2.1∧e17.2.2.2.2.2.2.2.2.2.1=e17.2.2.2.2.2.2.2.2.2.1∧(([]:List SV)=[]))∧(e17.2.2.2.2.2.2.2.2.2.2.2.2.1=e17.2.2.2.2.2.2.2.2.2.2.2.2.1∧(([]:List SV)=[]))∧(e17.2.2.2.2.2.2.2.2.2.2.2.2.2.2.1=e17.2.2.2.2.2.2.2.2.2.2.2.2.2.2.1∧((((([]:List SV)=[]))∧(True∧True∧(([]:List SV)=[])))∧True∧True∧(((([]:List SV)=[]))∧(True∧True∧(([]:List SV)=[])))∧True∧(([]:List SV)=[])))∧(e17.2.2.2.2.2.2.2.2.2.2.2.2.2.2.2=e17.2.2.2.2.2.2.2.2.2.2.2.2.2.2.2∧(True∧(((([]:List SV)=[]))∧(True∧True∧(([]:List SV)=[])))∧True∧True∧True∧True∧(((([]:List SV)=[]))∧(True∧True∧(([]:List SV)=[])))∧True∧True∧True∧True∧True∧True∧(([]:List SV)=[])))∧(True∧(([]:List SV)=[]))∧((d17.2++[d17.1])=d22.2∧false=(List.isEmpty d22.2))∧True))∧q17 d22))) d170)
def cx_tie_group_hooks_tie_straight:Cx:=⟨[],[],6,[],0,[],[],[],[],false,[],[],[]⟩
def li_tie_group_hooks_tie_straight:List (Nat × LoopAnn):=[]
def cx_tie_group_hooks_slices_Collect_int_slices_AppendSeq_int_int_tie_straight_1:Cx:=⟨[],[],22,[],0,[],[],[],[],false,[],[],[]⟩
def li_tie_group_hooks_slices_Collect_int_slices_AppendSeq_int_int_tie_straight_1:List (Nat × LoopAnn):=[(0,⟨Int × Int × Int × Int × Int × Int × Int × Int × Int × Int × Int × Int × Int × (List Value) × (List Value) × LpD,Int × (List Int),[0,1,4,5],fun e x=>[.dd 130002500000 .yv,.box 1200003 0,.val (.i .i64) e.2.1,.val (.i .i64) x.1],fun e x=>[(1200003,.slot 1,.cells [.val (.i .i64) e.1] (some 3)),(1299999,.key 1299999,.stk [.agg [.val (.i .i64) e.2.2.1,.val (.i .i64) e.2.2.2.1,.val (.i .i64) e.2.2.2.2.1,.val (.i .i64) e.2.2.2.2.2.1],.box 1 0,.nilS,.any,.any,.box 1 0,.box 1 0,.val (.i .i64) e.2.2.2.2.2.2.2.2.2.2.1,.box 1 0,.box 1 1,.val (.i .i64) e.2.2.2.2.2.2.2.2.2.2.2.1,.fn 134 [] [.box 1200003 0,.box 1200002 0],.any,.any,.any,.any,.any,.any,.any,.any,.any,.any,.any,.any,.any,.any,.any,.any,.any,.any,.any,.any] e.2.2.2.2.2.2.2.2.2.2.2.2.2.1),(1,.key 1,.cells [.val (.i .i64) e.2.2.2.2.2.2.1,.val (.i .i64) e.2.2.2.2.2.2.2.1,.val (.i .i64) e.2.2.2.2.2.2.2.2.1,.val (.i .i64) e.2.2.2.2.2.2.2.2.2.1] (some 115)),(1200002,.key 1200002,.cells [.val (.i .i64) e.2.2.2.2.2.2.2.2.2.2.2.2.1] (some 3)),(130000499999,.key 130000499999,.stk [.fn 134 [] [.box 1200003 0,.box 1200002 0],.any,.nilS,.fn 134 [] [.box 1200003 0,.box 1200002 0],.any] e.2.2.2.2.2.2.2.2.2.2.2.2.2.2.1),(130002500000,.key 130002500000,.lpf [.nilS,.fn 134 [] [.box 1200003 0,.box 1200002 0],.box 130000500002 0,.any,.nilS,.any,.fn 134 [] [.box 1200003 0,.box 1200002 0],.any,.any,.any,.any,.any,.any] e.2.2.2.2.2.2.2.2.2.2.2.2.2.2.2 .rdy),(130000500002,.key 130000500002,.cells [.lst 130000500011] (some 24)),(130000500011,.cell 130000500002 0,.lst 3 (.i .i64) x.2 (List.isEmpty x.2))]⟩)]
def cx_tie_group_hooks_slices_Collect_int_slices_AppendSeq_int_int:Cx:=⟨[(3,(.i .i64))],[],13,[],0,[],[],[],[],false,[],[(134,inlI cx_tie_group_hooks_slices_Collect_int_slices_AppendSeq_int_int_tie_straight_1 li_tie_group_hooks_slices_Collect_int_slices_AppendSeq_int_int_tie_straight_1 c134 22)],[]⟩
def li_tie_group_hooks_slices_Collect_int_slices_AppendSeq_int_int:List (Nat × LoopAnn):=[]
def cx_tie_group_hooks_slices_Collect_int:Cx:=⟨[],[],5,[],0,[(133,inlX cx_tie_group_hooks_slices_Collect_int_slices_AppendSeq_int_int (fun _=>li_tie_group_hooks_slices_Collect_int_slices_AppendSeq_int_int) c133 [.tmp 4] 13)],[],[],[],false,[],[],[]⟩
def li_tie_group_hooks_slices_Collect_int:List (Nat × LoopAnn):=[]
def cx_tie_group_hooks:Cx:=⟨[(3,(.i .i64))],[],32,[],0,[(105,inlX cx_tie_group_hooks_tie_straight (fun _=>li_tie_group_hooks_tie_straight) c105 [.tmp 4] 6),(104,inlX cx_tie_group_hooks_slices_Collect_int (fun _=>li_tie_group_hooks_slices_Collect_int) c104 [.tmp 2] 5)],[],[],[],false,[],[],[]⟩
def lp_tie_group_hooks (fi:Int) (la:Int) (wy:Int) (ti:Int):List (Nat × LoopAnn):=[(0,⟨Unit,(List Int) × Int,[3,4],fun e x=>[.lst 130000500011,.val (.i .i64) x.2],fun e x=>[(130000500011,.slot 3,.lst 3 (.i .i64) x.1 false)]⟩)]
set_option maxRecDepth 100000 in
theorem vq_tie_group_hooks (d:Int × Int × Int × Int):gwp (cx_tie_group_hooks) (lp_tie_group_hooks d.1 d.2.1 d.2.2.1 d.2.2.2) c69 0 (gend [.tmp 2] (res_tie_group_hooks d) (obs_tie_group_hooks d)) (gstart 32 (AL.can al_tie_group_hooks d))=vc_tie_group_hooks d.1 d.2.1 d.2.2.1 d.2.2.2:=by kernel_rfl
abbrev Ok_tie_group_hooks:Prop:=OkC Tryz.prog 69 s_tie_group_hooks
theorem mk_tie_group_hooks (h:∀ (fi:Int) (la:Int) (wy:Int) (ti:Int),(0 ≤ fi∧fi < 24∧0 ≤ la∧la < 24)→vc_tie_group_hooks fi la wy ti):OkC Tryz.prog 69 s_tie_group_hooks :=
 okC_vc fun69 mixed (C:=cx_tie_group_hooks) (V:=fun (d:Int × Int × Int × Int)=>vc_tie_group_hooks d.1 d.2.1 d.2.2.1 d.2.2.2) ⟨.nil,(XsOk.cons (inlX_ok fun105 mixed (C:=cx_tie_group_hooks_tie_straight) ⟨.nil,XsOk.nil,ItsOk.nil,YlOk.nil,IysOk.nil⟩ (fun _=>li_tie_group_hooks_tie_straight)) (XsOk.cons (inlX_ok fun104 mixed (C:=cx_tie_group_hooks_slices_Collect_int) ⟨.nil,(XsOk.cons (inlX_ok fun133 mixed (C:=cx_tie_group_hooks_slices_Collect_int_slices_AppendSeq_int_int) ⟨.nil,XsOk.nil,ItsOk.nil,YlOk.nil,(IysOk.cons (inlI_ok fun134 mixed (C:=cx_tie_group_hooks_slices_Collect_int_slices_AppendSeq_int_int_tie_straight_1) ⟨.nil,XsOk.nil,ItsOk.nil,YlOk.nil,IysOk.nil⟩ li_tie_group_hooks_slices_Collect_int_slices_AppendSeq_int_int_tie_straight_1) IysOk.nil)⟩ (fun _=>li_tie_group_hooks_slices_Collect_int_slices_AppendSeq_int_int)) XsOk.nil),ItsOk.nil,YlOk.nil,IysOk.nil⟩ (fun _=>li_tie_group_hooks_slices_Collect_int)) XsOk.nil)),ItsOk.nil,YlOk.nil,IysOk.nil⟩ (vq_tie_group_hooks) fun d hp=>h d.1 d.2.1 d.2.2.1 d.2.2.2 hp
theorem hAt_step {fi la:Int} (k:Nat):hAt fi la (k + 1)=hAt fi la k + (if la < fi then -1 else 1):=by
 unfold hAt; split <;> omega
theorem hAt_range {fi la:Int} {k:Nat} (h:0 ≤ fi∧fi < 24∧0 ≤ la∧la < 24) (hk:k ≤ hN fi la):0 ≤ hAt fi la k∧hAt fi la k < 24:=by
 unfold hAt hN at *; split <;> omega
theorem ok_tie_group_hooks:Ok_tie_group_hooks:=mk_tie_group_hooks fun fi la wy ti h=>by
 unfold vc_tie_group_hooks; (try delta lI gD sT I64)
 (try simp only [decide_eq_true_eq,decide_eq_false_iff_not])
 have hn:hN fi la ≤ 24:=by unfold hN; omega
 refine fun w1=>⟨trivial,fun w2 w3 w4=>⟨fun hc=>?_,fun hc=>?_⟩⟩
 all_goals
  refine ⟨(_,_,_,_,_,_,_,_,_,_,_,_,_,_,_,_),(_,_),(by and_intros <;> first | rfl | trivial | simp),?_⟩
  dsimp only
  refine ⟨fun d=>∃ k:Nat,k ≤ hN fi la∧d=(hAt fi la k,strK fi la k),fun d=>hN fi la - d.2.length,⟨0,by omega,by simp [hAt,strK]⟩,?_⟩
  rintro _ ⟨k,hk,rfl⟩
  have hr:=hAt_range h hk
  have hs:=hAt_step (fi:=fi) (la:=la) k
  simp only [hc,if_true,if_false] at hs
  dsimp only
  simp only [←strK_succ,strK_length,List.length_singleton,InK_i64,Bool.not_true,Bool.false_or,beq_iff_eq,beq_eq_false_iff_ne,ne_eq,hAt_end hk,←hs]
  refine ⟨trivial,fun w9=>⟨by omega,?_⟩⟩
  refine ⟨trivial,trivial,fun he=>?_,fun he=>?_⟩
  ·subst he
   refine ⟨trivial,trivial,trivial,fun hw=>⟨by omega,(),(_,_),(by and_intros <;> first | rfl | trivial | simp),?_⟩,fun hw=>by simp [hooksG,hw]⟩
   refine ⟨fun d=>∃ j:Nat,j ≤ hN fi la - 1∧d.2=(((hN fi la + 1:Nat):Int) - 2 - j)∧d.1=strK fi la (hN fi la + 1)++backK fi la (hN fi la) j,fun d=>d.2.toNat,⟨0,by omega,by simp,by simp [backK,strK]⟩,?_⟩
   rintro ⟨_,_⟩ ⟨j,hj,h2,h1⟩
   dsimp only at h1 h2 ⊢
   subst h1 h2
   simp only [List.length_append,strK_length,backK_length]
   refine ⟨fun hgt=>?_,fun hle=>?_⟩
   ·have e:(((hN fi la + 1:Nat):Int) - 2 - (j:Int)).toNat=hN fi la - 1 - j:=by omega
    rw [e,strK_at (by omega),List.append_assoc,←backK_succ]
    refine ⟨by omega,by omega,by omega,by omega,(_,_),(by and_intros <;> first | rfl | trivial | simp),⟨j + 1,by omega,?_,rfl⟩,?_⟩
    ·dsimp only; omega
    ·dsimp only; omega
   ·have:j=hN fi la - 1:=by omega
    subst this
    simp [hooksG,hw]
  ·refine ⟨?_,(hAt fi la (k + 1),strK fi la (k + 1)),(by rw [strK_succ]; and_intros <;> first | rfl | trivial | simp),⟨k + 1,by omega,rfl⟩,?_⟩
   ·have:=hAt_range h (show k + 1 ≤ hN fi la by omega); omega
   ·simp only [strK_length]; omega
end Go.Proofs.Tryz
set_option linter.unusedVariables false
namespace Go.Proofs.Tryz
open Go Go.V Go.Proofs
def al_math_bits_Mul32:AL (Int × Int):=(.cons (.k (.i .u32)) (.one (.k (.i .u32))))
def pre_math_bits_Mul32 (d:Int × Int):Prop:=False
def res_math_bits_Mul32 (d:Int × Int):SV:=.tup [.val (.i .u32) (0:Int),.val (.i .u32) (0:Int)]
def obs_math_bits_Mul32 (d:Int × Int):List OB:=[]
def s_math_bits_Mul32:CSp:=mkSp al_math_bits_Mul32 pre_math_bits_Mul32 res_math_bits_Mul32 obs_math_bits_Mul32
def vc_math_bits_Mul32 (a:Int) (b:Int):Prop :=
 (InK .u64 a)∧(InK .u64 b)∧(InK .u64 (a * b))∧(0 ≤ (32:Int))∧(InK .u32 (shrI .u64 (a * b) (32:Int)))∧(InK .u32 (a * b))∧(((shrI .u64 (a * b) (32:Int))=(0:Int)∧(a * b)=(0:Int)∧(([]:List SV)=[]))∧(True))
def cx_math_bits_Mul32:Cx:=⟨[],[],17,[],0,[],[],[],[],false,[],[],[]⟩
def lp_math_bits_Mul32 (a:Int) (b:Int):List (Nat × LoopAnn):=[]
set_option maxRecDepth 100000 in
theorem vq_math_bits_Mul32 (d:Int × Int):gwp (cx_math_bits_Mul32) (lp_math_bits_Mul32 d.1 d.2) c131 0 (gend [.tmp 4,.tmp 5] (res_math_bits_Mul32 d) (obs_math_bits_Mul32 d)) (gstart 17 (AL.can al_math_bits_Mul32 d))=vc_math_bits_Mul32 d.1 d.2:=by kernel_rfl
abbrev Ok_math_bits_Mul32:Prop:=OkC Tryz.prog 131 s_math_bits_Mul32
theorem mk_math_bits_Mul32 (h:∀ (a:Int) (b:Int),(False)→vc_math_bits_Mul32 a b):OkC Tryz.prog 131 s_math_bits_Mul32 :=
 okC_vc fun131 mixed (C:=cx_math_bits_Mul32) (V:=fun (d:Int × Int)=>vc_math_bits_Mul32 d.1 d.2) ⟨.nil,XsOk.nil,ItsOk.nil,YlOk.nil,IysOk.nil⟩ (vq_math_bits_Mul32) fun d hp=>h d.1 d.2 hp
theorem ok_math_bits_Mul32:Ok_math_bits_Mul32:=mk_math_bits_Mul32 fun a b h=>h.elim
def al_math_bits_Mul64:AL (Int × Int):=(.cons (.k (.i .u64)) (.one (.k (.i .u64))))
def pre_math_bits_Mul64 (d:Int × Int):Prop:=0 ≤ d.1∧d.1 ≤ 65535∧0 ≤ d.2∧d.2 ≤ 65535
def res_math_bits_Mul64 (d:Int × Int):SV:=.tup [.val (.i .u64) (0:Int),.val (.i .u64) (d.1 * d.2)]
def obs_math_bits_Mul64 (d:Int × Int):List OB:=[]
def s_math_bits_Mul64:CSp:=mkSp al_math_bits_Mul64 pre_math_bits_Mul64 res_math_bits_Mul64 obs_math_bits_Mul64
def vc_math_bits_Mul64 (a:Int) (b:Int):Prop :=
 (0 ≤ (32:Int))∧(0 ≤ (32:Int))∧(InK .u64 ((vbits .and .u64 a (4294967295:Int)) * (vbits .and .u64 b (4294967295:Int))))∧(InK .u64 ((shrI .u64 a (32:Int)) * (vbits .and .u64 b (4294967295:Int))))∧(0 ≤ (32:Int))∧(InK .u64 (((shrI .u64 a (32:Int)) * (vbits .and .u64 b (4294967295:Int))) + (shrI .u64 ((vbits .and .u64 a (4294967295:Int)) * (vbits .and .u64 b (4294967295:Int))) (32:Int))))∧(0 ≤ (32:Int))∧(InK .u64 ((vbits .and .u64 a (4294967295:Int)) * (shrI .u64 b (32:Int))))∧(InK .u64 ((vbits .and .u64 (((shrI .u64 a (32:Int)) * (vbits .and .u64 b (4294967295:Int))) + (shrI .u64 ((vbits .and .u64 a (4294967295:Int)) * (vbits .and .u64 b (4294967295:Int))) (32:Int))) (4294967295:Int)) + ((vbits .and .u64 a (4294967295:Int)) * (shrI .u64 b (32:Int)))))∧(InK .u64 ((shrI .u64 a (32:Int)) * (shrI .u64 b (32:Int))))∧(InK .u64 (((shrI .u64 a (32:Int)) * (shrI .u64 b (32:Int))) + (shrI .u64 (((shrI .u64 a (32:Int)) * (vbits .and .u64 b (4294967295:Int))) + (shrI .u64 ((vbits .and .u64 a (4294967295:Int)) * (vbits .and .u64 b (4294967295:Int))) (32:Int))) (32:Int))))∧(0 ≤ (32:Int))∧(InK .u64 ((((shrI .u64 a (32:Int)) * (shrI .u64 b (32:Int))) + (shrI .u64 (((shrI .u64 a (32:Int)) * (vbits .and .u64 b (4294967295:Int))) + (shrI .u64 ((vbits .and .u64 a (4294967295:Int)) * (vbits .and .u64 b (4294967295:Int))) (32:Int))) (32:Int))) + (shrI .u64 ((vbits .and .u64 (((shrI .u64 a (32:Int)) * (vbits .and .u64 b (4294967295:Int))) + (shrI .u64 ((vbits .and .u64 a (4294967295:Int)) * (vbits .and .u64 b (4294967295:Int))) (32:Int))) (4294967295:Int)) + ((vbits .and .u64 a (4294967295:Int)) * (shrI .u64 b (32:Int)))) (32:Int))))∧(InK .u64 (a * b))∧((((((shrI .u64 a (32:Int)) * (shrI .u64 b (32:Int))) + (shrI .u64 (((shrI .u64 a (32:Int)) * (vbits .and .u64 b (4294967295:Int))) + (shrI .u64 ((vbits .and .u64 a (4294967295:Int)) * (vbits .and .u64 b (4294967295:Int))) (32:Int))) (32:Int))) + (shrI .u64 ((vbits .and .u64 (((shrI .u64 a (32:Int)) * (vbits .and .u64 b (4294967295:Int))) + (shrI .u64 ((vbits .and .u64 a (4294967295:Int)) * (vbits .and .u64 b (4294967295:Int))) (32:Int))) (4294967295:Int)) + ((vbits .and .u64 a (4294967295:Int)) * (shrI .u64 b (32:Int)))) (32:Int)))=(0:Int)∧(a * b)=(a * b)∧(([]:List SV)=[]))∧(True))
def cx_math_bits_Mul64:Cx:=⟨[],[],51,[],0,[],[],[],[],false,[],[],[]⟩
def lp_math_bits_Mul64 (a:Int) (b:Int):List (Nat × LoopAnn):=[]
set_option maxRecDepth 100000 in
theorem vq_math_bits_Mul64 (d:Int × Int):gwp (cx_math_bits_Mul64) (lp_math_bits_Mul64 d.1 d.2) c132 0 (gend [.tmp 4,.tmp 5] (res_math_bits_Mul64 d) (obs_math_bits_Mul64 d)) (gstart 51 (AL.can al_math_bits_Mul64 d))=vc_math_bits_Mul64 d.1 d.2:=by kernel_rfl
abbrev Ok_math_bits_Mul64:Prop:=OkC Tryz.prog 132 s_math_bits_Mul64
theorem mk_math_bits_Mul64 (h:∀ (a:Int) (b:Int),(0 ≤ a∧a ≤ 65535∧0 ≤ b∧b ≤ 65535)→vc_math_bits_Mul64 a b):OkC Tryz.prog 132 s_math_bits_Mul64 :=
 okC_vc fun132 mixed (C:=cx_math_bits_Mul64) (V:=fun (d:Int × Int)=>vc_math_bits_Mul64 d.1 d.2) ⟨.nil,XsOk.nil,ItsOk.nil,YlOk.nil,IysOk.nil⟩ (vq_math_bits_Mul64) fun d hp=>h d.1 d.2 hp
theorem wrap_u64 {x:Nat} (h:x < 18446744073709551616):IntKind.wrap .u64 (x:Int)=x:=by
 have e:((x:Int) % (18446744073709551616:Int))=x:=by omega
 show (if (false && decide ((x:Int) % (18446744073709551616:Int) ≥ 9223372036854775808))=true then (x:Int) % (18446744073709551616:Int) - 18446744073709551616 else (x:Int) % (18446744073709551616:Int))=x
 simp only [e,Bool.false_and,Bool.false_eq_true,if_false]
theorem vmask_u64 {x:Nat} (h:x ≤ 4294967295):vbits .and .u64 (x:Int) 4294967295=x:=by
 have e:(BitVec.ofInt 64 (x:Int) &&& BitVec.ofInt 64 (4294967295:Int)).toNat=x:=by
  rw [BitVec.toNat_and,toNat_ofInt (by omega),show (4294967295:Int)=((4294967295:Nat):Int) from rfl,toNat_ofInt (by omega)]
  have:=Nat.and_two_pow_sub_one_eq_mod x 32
  simp only [Nat.reducePow,Nat.add_one_sub_one] at this
  rw [this]; omega
 show IntKind.wrap .u64 ((BitVec.ofInt 64 (x:Int) &&& BitVec.ofInt 64 (4294967295:Int)).toNat:Int)=_
 rw [e,wrap_u64 (by omega)]
theorem shr32_u64 {x:Nat} (h:x ≤ 4294967295):shrI .u64 (x:Int) 32=0:=by
 have:Nat.min (Int.toNat 32) 64=32:=rfl
 simp only [shrI,IntKind.bits,this]
 rw [Int.fdiv_eq_ediv_of_nonneg _ (Int.le_of_lt (Int.pow_pos (by omega)))]
 omega
theorem ok_math_bits_Mul64:Ok_math_bits_Mul64:=mk_math_bits_Mul64 fun a b h=>by
 obtain ⟨h1,h2,h3,h4⟩:=h
 obtain ⟨x,rfl⟩:=Int.eq_ofNat_of_zero_le h1
 obtain ⟨y,rfl⟩:=Int.eq_ofNat_of_zero_le h3
 have hxy:x * y ≤ 65535 * 65535:=Nat.mul_le_mul (by omega) (by omega)
 have e0:((0:Nat):Int)=0:=rfl
 have s0:=shr32_u64 (x:=0) (by omega)
 have m0:=vmask_u64 (x:=0) (by omega)
 rw [e0] at s0 m0
 have s3:=shr32_u64 (x:=x * y) (by omega)
 have e1:(x:Int) * (y:Int)=((x * y:Nat):Int):=by norm_cast
 unfold vc_math_bits_Mul64; (try delta lI gD sT I64); simp only [and_true,vmask_u64 (show x ≤ 4294967295 by omega),vmask_u64 (show y ≤ 4294967295 by omega),shr32_u64 (show x ≤ 4294967295 by omega),shr32_u64 (show y ≤ 4294967295 by omega),e1,s3,Int.zero_mul,Int.mul_zero,Int.add_zero,m0,s0,InK_u64]
 and_intros <;> omega
def al_math_bits_Mul:AL (Int × Int):=(.cons (.k (.i .u64)) (.one (.k (.i .u64))))
def pre_math_bits_Mul (d:Int × Int):Prop:=0 ≤ d.1∧d.1 ≤ 65535∧0 ≤ d.2∧d.2 ≤ 65535
def res_math_bits_Mul (d:Int × Int):SV:=.tup [.val (.i .u64) (0:Int),.val (.i .u64) (d.1 * d.2)]
def obs_math_bits_Mul (d:Int × Int):List OB:=[]
def s_math_bits_Mul:CSp:=mkSp al_math_bits_Mul pre_math_bits_Mul res_math_bits_Mul obs_math_bits_Mul
def vc_math_bits_Mul (a:Int) (b:Int):Prop :=
 (false=true →
  (InK .u32 a)∧(InK .u32 b)∧(False)∧(InK .u64 (0:Int))∧(InK .u64 (0:Int))∧(((0:Int)=(0:Int)∧(0:Int)=(a * b)∧(([]:List SV)=[]))∧(True))) ∧
 (false=false →
  (0 ≤ a∧a ≤ 65535∧0 ≤ b∧b ≤ 65535)∧(((0:Int)=(0:Int)∧(a * b)=(a * b)∧(([]:List SV)=[]))∧(True)))
def cx_math_bits_Mul:Cx:=⟨[],[(131,s_math_bits_Mul32),(132,s_math_bits_Mul64)],30,[],0,[],[],[],[],false,[],[],[]⟩
def lp_math_bits_Mul (a:Int) (b:Int):List (Nat × LoopAnn):=[]
set_option maxRecDepth 100000 in
theorem vq_math_bits_Mul (d:Int × Int):gwp (cx_math_bits_Mul) (lp_math_bits_Mul d.1 d.2) c103 0 (gend [.tmp 4,.tmp 5] (res_math_bits_Mul d) (obs_math_bits_Mul d)) (gstart 30 (AL.can al_math_bits_Mul d))=vc_math_bits_Mul d.1 d.2:=by kernel_rfl
abbrev Ok_math_bits_Mul:Prop:=OkC Tryz.prog 103 s_math_bits_Mul
theorem mk_math_bits_Mul (h:∀ (a:Int) (b:Int),(0 ≤ a∧a ≤ 65535∧0 ≤ b∧b ≤ 65535)→vc_math_bits_Mul a b):OkC Tryz.prog 103 s_math_bits_Mul :=
 okC_vc fun103 mixed (C:=cx_math_bits_Mul) (V:=fun (d:Int × Int)=>vc_math_bits_Mul d.1 d.2) ⟨(.cons ok_math_bits_Mul32 (.cons ok_math_bits_Mul64 .nil)),XsOk.nil,ItsOk.nil,YlOk.nil,IysOk.nil⟩ (vq_math_bits_Mul) fun d hp=>h d.1 d.2 hp
theorem ok_math_bits_Mul:Ok_math_bits_Mul:=mk_math_bits_Mul fun a b h=>by
 simp only [vc_math_bits_Mul]
 exact ⟨fun h=>by simp at h,fun _=>⟨h,(by and_intros <;> first | rfl | trivial | simp)⟩⟩
def al_slices_Repeat_int_int:AL (List Int × Int):=(.cons (.k (.list (.i .i64))) (.one (.k (.i .i64))))
def pre_slices_Repeat_int_int (d:List Int × Int):Prop:=d.1.length ≤ 1000∧0 ≤ d.2∧d.2 ≤ 1000
def res_slices_Repeat_int_int (d:List Int × Int):SV:=.lst 0
def obs_slices_Repeat_int_int (d:List Int × Int):List OB:=[.lst 3 (.i .i64) (repL d.1 d.2.toNat) false]
def s_slices_Repeat_int_int:CSp:=mkSp al_slices_Repeat_int_int pre_slices_Repeat_int_int res_slices_Repeat_int_int obs_slices_Repeat_int_int
def vc_slices_Repeat_int_int (l:List Int) (n:Int):Prop :=
 ((decide (n < (0:Int)))=true →
  False) ∧
 ((decide (n < (0:Int)))=false →
  (InK .u64 (lI l))∧(InK .u64 n)∧(0 ≤ (lI l)∧(lI l) ≤ 65535∧0 ≤ n∧n ≤ 65535)∧(((decide ((0:Int) > (0:Int))) || (decide (((lI l) * n) > (9223372036854775807:Int))))=true →
   False) ∧
  (((decide ((0:Int) > (0:Int))) || (decide (((lI l) * n) > (9223372036854775807:Int))))=false →
   (I64 ((lI l) * n))∧(0 ≤ ((lI l) * n))∧(((lI l) * n) ≤ ((lI l) * n))∧(((lI l) * n) * 8 ≤ 70368744177664)∧(((lI l) * n) ≤ 70368744177664)∧∃ (e2:Unit) (d20:(List Int) × Int),((True∧((Nat.min (List.length l) (List.length (List.replicate (Int.toNat ((lI l) * n)) (0:Int))):Nat):Int)=d20.2∧True)∧((((List.take (List.length (List.replicate (Int.toNat ((lI l) * n)) (0:Int))) l)++(List.drop (List.length l) (List.replicate (Int.toNat ((lI l) * n)) (0:Int))))=d20.1∧false=false)∧True)) ∧
   LoopP (fun (d2:(List Int) × Int) (q2:((List Int) × Int)→Prop) =>
    ((decide (d2.2 < (lI d2.1)))=true →
     (0 ≤ d2.2)∧(d2.2 ≤ (lI d2.1))∧((lI d2.1) ≤ (List.length d2.1))∧(0 ≤ (0:Int))∧((0:Int) ≤ d2.2)∧(d2.2 ≤ (List.length d2.1))∧(I64 (d2.2 + ((Nat.min (List.length (List.take (Int.toNat (d2.2 - (0:Int))) (List.drop (Int.toNat (0:Int)) d2.1))) (Int.toNat ((lI d2.1) - d2.2)):Nat):Int)))∧(∃ d3:(List Int) × Int,((True∧(d2.2 + ((Nat.min (List.length (List.take (Int.toNat (d2.2 - (0:Int))) (List.drop (Int.toNat (0:Int)) d2.1))) (Int.toNat ((lI d2.1) - d2.2)):Nat):Int))=d3.2∧True)∧((((List.take (Int.toNat d2.2) d2.1)++((List.take (Int.toNat ((lI d2.1) - d2.2)) (List.take (Int.toNat (d2.2 - (0:Int))) (List.drop (Int.toNat (0:Int)) d2.1)))++(List.drop ((Int.toNat d2.2) + Nat.min (List.length (List.take (Int.toNat (d2.2 - (0:Int))) (List.drop (Int.toNat (0:Int)) d2.1))) (Int.toNat ((lI d2.1) - d2.2))) d2.1)))=d3.1∧false=false)∧True))∧q2 d3)) ∧
    ((decide (d2.2 < (lI d2.1)))=false →
     (True∧((d2.1=(repL l n.toNat)∧false=false)∧True)))) d20))
def cx_slices_Repeat_int_int:Cx:=⟨[(3,(.i .i64))],[(103,s_math_bits_Mul)],48,[],0,[],[],[],[],false,[],[],[]⟩
def lp_slices_Repeat_int_int (l:List Int) (n:Int):List (Nat × LoopAnn):=[(0,⟨Unit,(List Int) × Int,[7,8],fun e x=>[.lst 30,.val (.i .i64) x.2],fun e x=>[(30,.slot 7,.lst 3 (.i .i64) x.1 false)]⟩)]
set_option maxRecDepth 100000 in
theorem vq_slices_Repeat_int_int (d:List Int × Int):gwp (cx_slices_Repeat_int_int) (lp_slices_Repeat_int_int d.1 d.2) c68 0 (gend [.tmp 4] (res_slices_Repeat_int_int d) (obs_slices_Repeat_int_int d)) (gstart 48 (AL.can al_slices_Repeat_int_int d))=vc_slices_Repeat_int_int d.1 d.2:=by kernel_rfl
abbrev Ok_slices_Repeat_int_int:Prop:=OkC Tryz.prog 68 s_slices_Repeat_int_int
theorem mk_slices_Repeat_int_int (h:∀ (l:List Int) (n:Int),(l.length ≤ 1000∧0 ≤ n∧n ≤ 1000)→vc_slices_Repeat_int_int l n):OkC Tryz.prog 68 s_slices_Repeat_int_int :=
 okC_vc fun68 mixed (C:=cx_slices_Repeat_int_int) (V:=fun (d:List Int × Int)=>vc_slices_Repeat_int_int d.1 d.2) ⟨(.cons ok_math_bits_Mul .nil),XsOk.nil,ItsOk.nil,YlOk.nil,IysOk.nil⟩ (vq_slices_Repeat_int_int) fun d hp=>h d.1 d.2 hp
theorem ok_slices_Repeat_int_int:Ok_slices_Repeat_int_int:=mk_slices_Repeat_int_int fun l n h=>by
 obtain ⟨h1,h2,h3⟩:=h
 obtain ⟨m,rfl⟩:=Int.eq_ofNat_of_zero_le h2
 have hlm:l.length * m ≤ 1000 * 1000:=Nat.mul_le_mul h1 (by omega)
 have e1:(l.length:Int) * (m:Int)=((l.length * m:Nat):Int):=by norm_cast
 unfold vc_slices_Repeat_int_int; (try delta lI gD sT I64); simp only [true_and,and_true,exists_const,decide_eq_true_eq,decide_eq_false_iff_not,Int.toNat_natCast,gt_iff_lt,e1,InK_i64,InK_u64,Int.sub_zero,List.length_replicate,Int.toNat_zero,List.drop_zero]
 refine ⟨by omega,fun _=>⟨by omega,by omega,by omega,fun h=>?_,fun h=>⟨by omega,by omega,by omega,by omega,by omega,?_⟩⟩⟩
 ·simp at h; omega
 refine ⟨(_,_),(by and_intros <;> first | rfl | trivial | simp),?_⟩
 refine ⟨fun d=>∃ k:Nat,d.2=k∧RepI l m d.1 k,fun d=>d.1.length - d.2.toNat,⟨_,rfl,repI_zero l m _⟩,?_⟩
 rintro ⟨xs,_⟩ ⟨k,rfl,hI⟩
 dsimp only at hI ⊢
 have hxl:=hI.1
 have hk:=hI.2.1
 refine ⟨fun hlt=>?_,fun hge=>?_⟩
 ·have hlt:k < xs.length:=by omega
  obtain ⟨g1,g2⟩:=repI_step hI hlt
  have e2:((xs.length:Int) - (k:Int)).toNat=xs.length - k:=by omega
  have g3:=g1.2.1
  have g4:=g1.1
  have hc:Nat.min (List.take k xs).length (xs.length - k) ≤ 1000000:=by have:Nat.min (List.take k xs).length (xs.length - k) ≤ _:=Nat.min_le_left _ _; simp only [List.length_take] at this ⊢; omega
  simp only [Int.toNat_natCast,e2]
  generalize Nat.min (List.take k xs).length (xs.length - k)=c at g1 g2 g3 g4 hc ⊢
  refine ⟨by omega,by omega,by omega,by omega,by omega,by omega,⟨by omega,by omega⟩,(_,((k + c:Nat):Int)),(by and_intros <;> first | rfl | trivial | omega),⟨_,rfl,g1⟩,?_⟩
  dsimp only
  rw [g4]; omega
 ·have:=repI_end hI (by omega)
  rw [this]
def al_tie_Make:AL (Int × List (Int × Int × Int × Int)):=(.cons (.k (.i .i64)) (.one (.k (.list (.pair (.i .i64) (.pair (.i .i64) (.pair (.i .i64) (.i .i64))))))))
def pre_tie_Make (d:Int × List (Int × Int × Int × Int)):Prop:=d.2.length ≤ 1000
def res_tie_Make (d:Int × List (Int × Int × Int × Int)):SV:=.tup [.agg [.val (.i .i64) (if mkErr d.1 d.2=0 then d.1 else 0),.lst 0],.val (.i .i64) (mkI d.1 d.2),.val (.i .i64) (mkErr d.1 d.2)]
def obs_tie_Make (d:Int × List (Int × Int × Int × Int)):List OB:=[.lst 3 (.i .i64) (if mkErr d.1 d.2=0 then mkW d.2 else []) ((if mkErr d.1 d.2=0 then mkW d.2 else []).isEmpty)]
def s_tie_Make:CSp:=mkSp al_tie_Make pre_tie_Make res_tie_Make obs_tie_Make
def vc_tie_Make (hk:Int) (g:List (Int × Int × Int × Int)):Prop :=
 ([hk].length ≤ 1000000)∧((!(!([hk].any fun n=>decide (n < (1:Int)) || decide ((24:Int) < n))))=true →
  ((((0:Int)=(if mkErr hk g=0 then hk else 0)∧True∧(([]:List SV)=[]))∧(0:Int)=(mkI hk g)∧(2:Int)=(mkErr hk g)∧(([]:List SV)=[]))∧(((if mkErr hk g=0 then mkW g else [])=[]∧(if mkErr hk g=0 then mkW g else []).isEmpty=true)∧True))) ∧
 ((!(!([hk].any fun n=>decide (n < (1:Int)) || decide ((24:Int) < n))))=false →
  ((decide ((lI g) > (8:Int)))=true →
   ((((0:Int)=(if mkErr hk g=0 then hk else 0)∧True∧(([]:List SV)=[]))∧(0:Int)=(mkI hk g)∧(5:Int)=(mkErr hk g)∧(([]:List SV)=[]))∧(((if mkErr hk g=0 then mkW g else [])=[]∧(if mkErr hk g=0 then mkW g else []).isEmpty=true)∧True))) ∧
  ((decide ((lI g) > (8:Int)))=false →
   (((lI g) == (0:Int))=true →
    ((((0:Int)=(if mkErr hk g=0 then hk else 0)∧True∧(([]:List SV)=[]))∧(0:Int)=(mkI hk g)∧(7:Int)=(mkErr hk g)∧(([]:List SV)=[]))∧(((if mkErr hk g=0 then mkW g else [])=[]∧(if mkErr hk g=0 then mkW g else []).isEmpty=true)∧True))) ∧
   (((lI g) == (0:Int))=false →
    ∃ (e4:Unit) (d40:(List Int) × Int),((hk=hk∧True∧True∧g=g∧(lI g)=(lI g)∧(0:Int)=d40.2∧True)∧(((0:Int)=(0:Int)∧True∧(([]:List SV)=[]))∧(d40.1=[]∧(List.isEmpty d40.1)=true)∧True)) ∧
    LoopP (fun (d4:(List Int) × Int) (q4:((List Int) × Int)→Prop) =>
     ((decide (d4.2 < (lI g)))=true →
      (0 ≤ d4.2)∧(d4.2 < (List.length g))∧(I64 (hk - (1:Int)))∧([(gD g d4.2 (0,(0,(0,0)))).1,(gD g d4.2 (0,(0,(0,0)))).2.1].length ≤ 1000000)∧(((!(!([(gD g d4.2 (0,(0,(0,0)))).1,(gD g d4.2 (0,(0,(0,0)))).2.1].any fun n=>decide (n < (0:Int)) || decide ((hk - (1:Int)) < n)))) || (((gD g d4.2 (0,(0,(0,0)))).2.2.1 != (1:Int)) && ((gD g d4.2 (0,(0,(0,0)))).2.2.1 != (2:Int))))=false→True)∧(((!(!([(gD g d4.2 (0,(0,(0,0)))).1,(gD g d4.2 (0,(0,(0,0)))).2.1].any fun n=>decide (n < (0:Int)) || decide ((hk - (1:Int)) < n)))) || (((gD g d4.2 (0,(0,(0,0)))).2.2.1 != (1:Int)) && ((gD g d4.2 (0,(0,(0,0)))).2.2.1 != (2:Int))))=false→[(gD g d4.2 (0,(0,(0,0)))).2.2.2].length ≤ 1000000)∧((((!(!([(gD g d4.2 (0,(0,(0,0)))).1,(gD g d4.2 (0,(0,(0,0)))).2.1].any fun n=>decide (n < (0:Int)) || decide ((hk - (1:Int)) < n)))) || (((gD g d4.2 (0,(0,(0,0)))).2.2.1 != (1:Int)) && ((gD g d4.2 (0,(0,(0,0)))).2.2.1 != (2:Int)))) || (!(!([(gD g d4.2 (0,(0,(0,0)))).2.2.2].any fun n=>decide (n < (1:Int)) || decide ((8:Int) < n)))))=true →
       ((((0:Int)=(if mkErr hk g=0 then hk else 0)∧True∧(([]:List SV)=[]))∧d4.2=(mkI hk g)∧(2:Int)=(mkErr hk g)∧(([]:List SV)=[]))∧(((if mkErr hk g=0 then mkW g else [])=[]∧(if mkErr hk g=0 then mkW g else []).isEmpty=true)∧True))) ∧
      ((((!(!([(gD g d4.2 (0,(0,(0,0)))).1,(gD g d4.2 (0,(0,(0,0)))).2.1].any fun n=>decide (n < (0:Int)) || decide ((hk - (1:Int)) < n)))) || (((gD g d4.2 (0,(0,(0,0)))).2.2.1 != (1:Int)) && ((gD g d4.2 (0,(0,(0,0)))).2.2.1 != (2:Int)))) || (!(!([(gD g d4.2 (0,(0,(0,0)))).2.2.2].any fun n=>decide (n < (1:Int)) || decide ((8:Int) < n)))))=false →
       (0 ≤ ((gD g d4.2 (0,(0,(0,0)))).1)∧((gD g d4.2 (0,(0,(0,0)))).1) < 24∧0 ≤ ((gD g d4.2 (0,(0,(0,0)))).2.1)∧((gD g d4.2 (0,(0,(0,0)))).2.1) < 24)∧(false=true→(hooksG ((gD g d4.2 (0,(0,(0,0)))).1) ((gD g d4.2 (0,(0,(0,0)))).2.1) ((gD g d4.2 (0,(0,(0,0)))).2.2.1))=[])∧((hooksG ((gD g d4.2 (0,(0,(0,0)))).1) ((gD g d4.2 (0,(0,(0,0)))).2.1) ((gD g d4.2 (0,(0,(0,0)))).2.2.1)).length ≤ 1000∧0 ≤ ((gD g d4.2 (0,(0,(0,0)))).2.2.2)∧((gD g d4.2 (0,(0,(0,0)))).2.2.2) ≤ 1000)∧(false=true→(repL (hooksG ((gD g d4.2 (0,(0,(0,0)))).1) ((gD g d4.2 (0,(0,(0,0)))).2.1) ((gD g d4.2 (0,(0,(0,0)))).2.2.1)) ((gD g d4.2 (0,(0,(0,0)))).2.2.2).toNat)=[])∧(((List.length d4.1) + (List.length (repL (hooksG ((gD g d4.2 (0,(0,(0,0)))).1) ((gD g d4.2 (0,(0,(0,0)))).2.1) ((gD g d4.2 (0,(0,(0,0)))).2.2.1)) ((gD g d4.2 (0,(0,(0,0)))).2.2.2).toNat))) * 8 ≤ 70368744177664)∧((decide ((lI (d4.1++(repL (hooksG ((gD g d4.2 (0,(0,(0,0)))).1) ((gD g d4.2 (0,(0,(0,0)))).2.1) ((gD g d4.2 (0,(0,(0,0)))).2.2.1)) ((gD g d4.2 (0,(0,(0,0)))).2.2.2).toNat))) > (96:Int)))=true →
        ((((0:Int)=(if mkErr hk g=0 then hk else 0)∧True∧(([]:List SV)=[]))∧d4.2=(mkI hk g)∧(8:Int)=(mkErr hk g)∧(([]:List SV)=[]))∧(((if mkErr hk g=0 then mkW g else [])=[]∧(if mkErr hk g=0 then mkW g else []).isEmpty=true)∧True))) ∧
       ((decide ((lI (d4.1++(repL (hooksG ((gD g d4.2 (0,(0,(0,0)))).1) ((gD g d4.2 (0,(0,(0,0)))).2.1) ((gD g d4.2 (0,(0,(0,0)))).2.2.1)) ((gD g d4.2 (0,(0,(0,0)))).2.2.2).toNat))) > (96:Int)))=false →
        (I64 (d4.2 + (1:Int)))∧(∃ d5:(List Int) × Int,((hk=hk∧True∧True∧g=g∧(lI g)=(lI g)∧(d4.2 + (1:Int))=d5.2∧True)∧(((0:Int)=(0:Int)∧True∧(([]:List SV)=[]))∧((d4.1++(repL (hooksG ((gD g d4.2 (0,(0,(0,0)))).1) ((gD g d4.2 (0,(0,(0,0)))).2.1) ((gD g d4.2 (0,(0,(0,0)))).2.2.1)) ((gD g d4.2 (0,(0,(0,0)))).2.2.2).toNat))=d5.1∧((List.isEmpty (repL (hooksG ((gD g d4.2 (0,(0,(0,0)))).1) ((gD g d4.2 (0,(0,(0,0)))).2.1) ((gD g d4.2 (0,(0,(0,0)))).2.2.1)) ((gD g d4.2 (0,(0,(0,0)))).2.2.2).toNat)) && (List.isEmpty d4.1))=(List.isEmpty d5.1))∧True))∧q4 d5)))) ∧
     ((decide (d4.2 < (lI g)))=false →
      (((hk=(if mkErr hk g=0 then hk else 0)∧True∧(([]:List SV)=[]))∧(0:Int)=(mkI hk g)∧(0:Int)=(mkErr hk g)∧(([]:List SV)=[]))∧((d4.1=(if mkErr hk g=0 then mkW g else [])∧(List.isEmpty d4.1)=(if mkErr hk g=0 then mkW g else []).isEmpty)∧True)))) d40)))
def cx_tie_Make:Cx:=⟨[(3,(.i .i64))],[(67,s_tie_within),(69,s_tie_group_hooks),(68,s_slices_Repeat_int_int)],78,[],0,[],[],[],[],false,[],[],[]⟩
def lp_tie_Make (hk:Int) (g:List (Int × Int × Int × Int)):List (Nat × LoopAnn):=[(1,⟨Unit,(List Int) × Int,[0,4,7,26,27,28],fun e x=>[.val (.i .i64) hk,.box 4 0,.lst 68,.val (.list (.pair (.i .i64) (.pair (.i .i64) (.pair (.i .i64) (.i .i64))))) g,.val (.i .i64) (((List.length g):Nat):Int),.val (.i .i64) x.2],fun e x=>[(4,.slot 4,.cells [.val (.i .i64) (0:Int),.nilS] (some 26)),(68,.slot 7,.lst 3 (.i .i64) x.1 (List.isEmpty x.1))]⟩)]
set_option maxRecDepth 100000 in
theorem vq_tie_Make (d:Int × List (Int × Int × Int × Int)):gwp (cx_tie_Make) (lp_tie_Make d.1 d.2) c15 0 (gend [.cell 4 true 2,.tmp 5,.tmp 6] (res_tie_Make d) (obs_tie_Make d)) (gstart 78 (AL.can al_tie_Make d))=vc_tie_Make d.1 d.2:=by kernel_rfl
abbrev Ok_tie_Make:Prop:=OkC Tryz.prog 15 s_tie_Make
theorem mk_tie_Make (h:∀ (hk:Int) (g:List (Int × Int × Int × Int)),(g.length ≤ 1000)→vc_tie_Make hk g):OkC Tryz.prog 15 s_tie_Make :=
 okC_vc fun15 mixed (C:=cx_tie_Make) (V:=fun (d:Int × List (Int × Int × Int × Int))=>vc_tie_Make d.1 d.2) ⟨(.cons ok_tie_within (.cons ok_tie_group_hooks (.cons ok_slices_Repeat_int_int .nil))),XsOk.nil,ItsOk.nil,YlOk.nil,IysOk.nil⟩ (vq_tie_Make) fun d hp=>h d.1 d.2 hp
theorem ok_tie_Make:Ok_tie_Make:=mk_tie_Make fun hk g hg=>by
 unfold vc_tie_Make; (try delta lI gD sT I64)
 (try simp only [decide_eq_true_eq,decide_eq_false_iff_not])
 have ea:∀ n:Int,(!(!([n].any fun n=>decide (n < 1) || decide (24 < n))))=!inI n 1 24:=fun n=>by rw [Bool.eq_iff_iff]; simp [inI] <;> omega
 simp only [ea,mkBad_any]
 refine ⟨by simp,fun h=>?_,fun h=>⟨fun h2=>?_,fun h2=>⟨fun h3=>?_,fun h3=>?_⟩⟩⟩
 ·have h:inI hk 1 24=false:=by simpa using h
  simp [mkErr,mkI,h]
 ·have h:inI hk 1 24=true:=by simpa using h
  have h2:8 < g.length:=by omega
  simp [mkErr,mkI,h,h2]
 ·have h:inI hk 1 24=true:=by simpa using h
  have h3:g=[]:=by simpa using h3
  subst h3
  simp [mkErr,mkI,h,mkAt]
 have h:inI hk 1 24=true:=by simpa using h
 have h3:¬ g.length=0:=by simpa using h3
 have hh:1 ≤ hk∧hk ≤ 24:=by simpa [inI] using h
 obtain ⟨hE,hI⟩:=mkErr_mkI h (by omega) h3
 refine ⟨(),([],0),(by and_intros <;> first | rfl | trivial | simp),?_⟩
 refine LoopP.count2 g.length (fun i ws=>ws=mkW (g.take i)∧∀ j,j < i→mkStop hk g j=false) ⟨by simp [mkW],fun j hj=>by omega⟩ fun i ws hi hJ q hq=>?_
 obtain ⟨rfl,hJ⟩:=hJ
 have hl:=mkLen hi hJ
 dsimp only
 simp only [Int.toNat_natCast,InK_i64]
 refine ⟨fun hlt=>?_,fun hge=>?_⟩
 ·have hlt:i < g.length:=by omega
  generalize hx:g.getD i (0,(0,(0,0)))=x
  obtain ⟨a,b,c,t⟩:=x
  dsimp only
  refine ⟨by omega,by omega,by omega,by simp,fun _=>trivial,fun _=>by simp,fun hb=>?_,fun hb=>?_⟩
  ·have hs:mkAt hk g=some i:=mkAt_some hlt (by rw [mkStop,hx,hb]; rfl) hJ
   simp only [hs,hx,hb,if_true] at hE hI
   simp [hE,hI]
  ·obtain ⟨b1,b2,b3,b4,b5⟩:=mkBad_false hb h
   dsimp only at b1 b2 b3 b4 b5
   have hg:=hooksG_length (wy:=c) b1
   have ht:mkW (g.take (i + 1))=mkW (g.take i)++mkOne (a,b,c,t):=by rw [mkW_take hlt,hx]
   have ho:(mkOne (a,b,c,t)).length ≤ 1000:=by
    show (repL (hooksG a b c) t.toNat).length ≤ 1000
    rw [repL_length]
    have:(hooksG a b c).length * t.toNat ≤ 48 * 8:=Nat.mul_le_mul (by omega) (by omega)
    omega
   have ho':(repL (hooksG a b c) t.toNat).length ≤ 1000:=ho
   have ht2:mkW (g.take (i + 1))=mkW (g.take i)++repL (hooksG a b c) t.toNat:=ht
   rw [isEmpty_app,←ht2]
   refine ⟨b1,(fun hf=>by cases hf),⟨by omega,by omega,by omega⟩,(fun hf=>by cases hf),by omega,fun hgt=>?_,fun hle=>?_⟩
   ·have h96:96 < (mkW (g.take (i + 1))).length:=by omega
    have hs:mkAt hk g=some i:=mkAt_some hlt (by simp [mkStop,h96]) hJ
    simp only [hs,hx,hb,if_false,Bool.false_eq_true] at hE hI
    simp [hE,hI]
   ·refine ⟨by omega,(mkW (g.take (i + 1)),(i:Int) + 1),(by and_intros <;> first | rfl | trivial | simp),hq _ hlt ⟨rfl,fun j hj=>?_⟩⟩
    rcases Nat.lt_succ_iff_lt_or_eq.1 hj with hj | rfl
    ·exact hJ j hj
    ·rw [mkStop,hx,hb,Bool.false_or,decide_eq_false_iff_not]; omega
 ·have:i=g.length:=by omega
  subst this
  have hs:=mkAt_none hJ
  simp only [hs] at hE hI
  simp [hE,hI]
end Go.Proofs.Tryz
set_option linter.unusedVariables false
namespace Go.Proofs.Tryz
open Go Go.V Go.Proofs
def al_point_within_1:AL (Int × Int × Int):=(.cons (.k (.i .i64)) (.cons (.ptr (.one (.k (.i .i64)))) (.one (.ptr (.one (.k (.i .i64)))))))
def pre_point_within_1 (d:Int × Int × Int):Prop:=True
def res_point_within_1 (d:Int × Int × Int):SV:=.val .bo (decide (d.1 < d.2.1) || decide (d.2.2 < d.1))
def obs_point_within_1 (d:Int × Int × Int):List OB:=[]
def s_point_within_1:CSp:=mkSp al_point_within_1 pre_point_within_1 res_point_within_1 obs_point_within_1
def vc_point_within_1 (n:Int) (a:Int) (b:Int):Prop :=
 (((decide (n < a)) || (decide (n > b)))=(decide (n < a) || decide (b < n))∧(True))
def cx_point_within_1:Cx:=⟨[],[],13,[],0,[],[],[],[],false,[],[],[]⟩
def lp_point_within_1 (n:Int) (a:Int) (b:Int):List (Nat × LoopAnn):=[]
set_option maxRecDepth 100000 in
theorem vq_point_within_1 (d:Int × Int × Int):gwp (cx_point_within_1) (lp_point_within_1 d.1 d.2.1 d.2.2) c120 0 (gend [.tmp 4] (res_point_within_1 d) (obs_point_within_1 d)) (gstart 13 (AL.can al_point_within_1 d))=vc_point_within_1 d.1 d.2.1 d.2.2:=by kernel_rfl
abbrev Ok_point_within_1:Prop:=OkC Tryz.prog 120 s_point_within_1
theorem mk_point_within_1 (h:∀ (n:Int) (a:Int) (b:Int),(True)→vc_point_within_1 n a b):OkC Tryz.prog 120 s_point_within_1 :=
 okC_vc fun120 mixed (C:=cx_point_within_1) (V:=fun (d:Int × Int × Int)=>vc_point_within_1 d.1 d.2.1 d.2.2) ⟨.nil,XsOk.nil,ItsOk.nil,YlOk.nil,IysOk.nil⟩ (vq_point_within_1) fun d hp=>h d.1 d.2.1 d.2.2 hp
theorem ok_point_within_1:Ok_point_within_1:=mk_point_within_1 fun n a b _=>by
 exact ⟨rfl,trivial⟩
def al_point_within:AL (Int × Int × List Int):=(.cons (.k (.i .i64)) (.cons (.k (.i .i64)) (.one (.k (.list (.i .i64))))))
def pre_point_within (d:Int × Int × List Int):Prop:=d.2.2.length ≤ 1000000
def res_point_within (d:Int × Int × List Int):SV:=.val .bo (!(d.2.2.any fun n=>decide (n < d.1) || decide (d.2.1 < n)))
def obs_point_within (d:Int × Int × List Int):List OB:=[]
def s_point_within:CSp:=mkSp al_point_within pre_point_within res_point_within obs_point_within
def vc_point_within (a:Int) (b:Int) (l:List Int):Prop :=
 (l.length ≤ 1000000∧∀ x ∈ l,(fun (x1:Int)=>True) x)∧((!(l.any (fun (x1:Int)=>(decide (x1 < a) || decide (b < x1)))))=(!(l.any fun n=>decide (n < a) || decide (b < n)))∧(True))
def cx_point_within:Cx:=⟨[],[(101,s_slices_ContainsFunc_int_int),(120,s_point_within_1)],11,[],0,[],[],[],[],false,[],[],[]⟩
def lp_point_within (a:Int) (b:Int) (l:List Int):List (Nat × LoopAnn):=[]
set_option maxRecDepth 100000 in
theorem vq_point_within (d:Int × Int × List Int):gwp (cx_point_within) (lp_point_within d.1 d.2.1 d.2.2) c98 0 (gend [.tmp 6] (res_point_within d) (obs_point_within d)) (gstart 11 (AL.can al_point_within d))=vc_point_within d.1 d.2.1 d.2.2:=by kernel_rfl
abbrev Ok_point_within:Prop:=OkC Tryz.prog 98 s_point_within
theorem mk_point_within (h:∀ (a:Int) (b:Int) (l:List Int),(l.length ≤ 1000000)→vc_point_within a b l):OkC Tryz.prog 98 s_point_within :=
 okC_vc fun98 mixed (C:=cx_point_within) (V:=fun (d:Int × Int × List Int)=>vc_point_within d.1 d.2.1 d.2.2) ⟨(.cons ok_slices_ContainsFunc_int_int (.cons ok_point_within_1 .nil)),XsOk.nil,ItsOk.nil,YlOk.nil,IysOk.nil⟩ (vq_point_within) fun d hp=>h d.1 d.2.1 d.2.2 hp
theorem ok_point_within:Ok_point_within:=mk_point_within fun a b l h=>by
 exact ⟨⟨h,fun _ _=>trivial⟩,rfl,trivial⟩
def al_point_Check:AL (Int × List Int):=(.one (.agg (.cons (.k (.i .i64)) (.one (.k (.list (.i .i64)))))))
def pre_point_Check (d:Int × List Int):Prop:=d.2.length ≤ 1000000
def res_point_Check (d:Int × List Int):SV:=.val (.i .i64) (pointErr d.1 d.2)
def obs_point_Check (d:Int × List Int):List OB:=[]
def s_point_Check:CSp:=mkSp al_point_Check pre_point_Check res_point_Check obs_point_Check
def vc_point_Check (hd:Int) (rows:List Int):Prop :=
 ([hd].length ≤ 1000000)∧((!(!([hd].any fun n=>decide (n < (1:Int)) || decide ((24:Int) < n))))=true →
  ((2:Int)=(pointErr hd rows)∧(True))) ∧
 ((!(!([hd].any fun n=>decide (n < (1:Int)) || decide ((24:Int) < n))))=false →
  ((decide ((lI rows) > (60:Int)))=true →
   ((5:Int)=(pointErr hd rows)∧(True))) ∧
  ((decide ((lI rows) > (60:Int)))=false →
   (((lI rows) == (0:Int))=true →
    ((7:Int)=(pointErr hd rows)∧(True))) ∧
   (((lI rows) == (0:Int))=false →
    (0 ≤ hd)∧(I64 (shlI .i64 (1:Int) hd))∧(I64 ((shlI .i64 (1:Int) hd) - (1:Int)))∧(rows.length ≤ 1000000)∧((!(!(rows.any fun n=>decide (n < (0:Int)) || decide (((shlI .i64 (1:Int) hd) - (1:Int)) < n))))=true →
     ((2:Int)=(pointErr hd rows)∧(True))) ∧
    ((!(!(rows.any fun n=>decide (n < (0:Int)) || decide (((shlI .i64 (1:Int) hd) - (1:Int)) < n))))=false →
     ((0:Int)=(pointErr hd rows)∧(True))))))
def cx_point_Check:Cx:=⟨[(3,(.i .i64))],[(98,s_point_within)],28,[],0,[],[],[],[],false,[],[],[]⟩
def lp_point_Check (hd:Int) (rows:List Int):List (Nat × LoopAnn):=[]
set_option maxRecDepth 100000 in
theorem vq_point_Check (d:Int × List Int):gwp (cx_point_Check) (lp_point_Check d.1 d.2) c71 0 (gend [.tmp 2] (res_point_Check d) (obs_point_Check d)) (gstart 28 (AL.can al_point_Check d))=vc_point_Check d.1 d.2:=by kernel_rfl
abbrev Ok_point_Check:Prop:=OkC Tryz.prog 71 s_point_Check
theorem mk_point_Check (h:∀ (hd:Int) (rows:List Int),(rows.length ≤ 1000000)→vc_point_Check hd rows):OkC Tryz.prog 71 s_point_Check :=
 okC_vc fun71 mixed (C:=cx_point_Check) (V:=fun (d:Int × List Int)=>vc_point_Check d.1 d.2) ⟨(.cons ok_point_within .nil),XsOk.nil,ItsOk.nil,YlOk.nil,IysOk.nil⟩ (vq_point_Check) fun d hp=>h d.1 d.2 hp
theorem shl_one {h:Int} (h1:0 ≤ h) (h2:h ≤ 62):shlI .i64 1 h=2 ^ h.toNat:=by
 obtain ⟨n,rfl⟩:=Int.eq_ofNat_of_zero_le h1
 have:Nat.min n 64=n:=Nat.min_eq_left (by omega)
 simp only [shlI,Int.toNat_natCast,IntKind.bits,this,Int.one_mul]
theorem pow_bound {h:Int} (h1:1 ≤ h) (h2:h ≤ 24):(2:Int) ≤ 2 ^ h.toNat∧(2:Int) ^ h.toNat ≤ 16777216:=by
 obtain ⟨n,rfl⟩:=Int.eq_ofNat_of_zero_le (show 0 ≤ h by omega)
 have a1:2 ^ 1 ≤ 2 ^ n:=Nat.pow_le_pow_right (by omega) (by omega)
 have a2:2 ^ n ≤ 2 ^ 24:=Nat.pow_le_pow_right (by omega) (by omega)
 simp only [Int.toNat_natCast]
 have e:((2:Int) ^ n)=((2 ^ n:Nat):Int):=by norm_cast
 rw [e]
 omega
theorem ok_point_Check:Ok_point_Check:=mk_point_Check fun hd rows hl=>by
 unfold vc_point_Check; (try delta lI gD sT I64); simp only [and_true,decide_eq_true_eq,decide_eq_false_iff_not,beq_iff_eq,ne_eq,beq_eq_false_iff_ne,gt_iff_lt,Bool.not_not]
 simp only [←nI]
 refine ⟨by simp,fun h1=>by simp at h1; simp [pointErr,h1],fun h1=>⟨fun h2=>?_,fun h2=>⟨fun h3=>?_,fun h3=>?_⟩⟩⟩
 all_goals simp only [List.any_cons,List.any_nil,Bool.or_false,Bool.not_eq_false'] at h1
 ·have:60 < rows.length:=by omega
  simp [pointErr,h1,this]
 ·have h3:rows.length=0:=by omega
  simp [pointErr,h1,h3]
 have h2':¬ 60 < rows.length:=by omega
 have h3':¬ rows.length=0:=by omega
 have hi:1 ≤ hd∧hd ≤ 24:=by simpa [inI] using h1
 have hp:=pow_bound hi.1 hi.2
 have hte:pointErr hd rows=if rows.any (fun x=>!inI x 0 (2 ^ hd.toNat - 1)) then 2 else 0:=by simp only [pointErr,h1,h2',h3']; simp
 rw [hte]
 simp only [InK_i64,shl_one (show 0 ≤ hd by omega) (by omega)]
 refine ⟨by omega,by omega,by omega,by omega,fun h=>by rw [if_pos h],fun h=>by rw [h]; rfl⟩
def al_tie_mark:AL (Bool):=(.one (.k .bo))
def pre_tie_mark (d:Bool):Prop:=True
def res_tie_mark (d:Bool):SV:=.val (.i .u8) (markI d)
def obs_tie_mark (d:Bool):List OB:=[]
def s_tie_mark:CSp:=mkSp al_tie_mark pre_tie_mark res_tie_mark obs_tie_mark
def vc_tie_mark (x:Bool):Prop :=
 (x=true →
  ((120:Int)=(markI x)∧(True))) ∧
 (x=false →
  ((46:Int)=(markI x)∧(True)))
def cx_tie_mark:Cx:=⟨[],[],4,[],0,[],[],[],[],false,[],[],[]⟩
def lp_tie_mark (x:Bool):List (Nat × LoopAnn):=[]
set_option maxRecDepth 100000 in
theorem vq_tie_mark (d:Bool):gwp (cx_tie_mark) (lp_tie_mark d) c107 0 (gend [.tmp 2] (res_tie_mark d) (obs_tie_mark d)) (gstart 4 (AL.can al_tie_mark d))=vc_tie_mark d:=by kernel_rfl
abbrev Ok_tie_mark:Prop:=OkC Tryz.prog 107 s_tie_mark
theorem mk_tie_mark (h:∀ (x:Bool),(True)→vc_tie_mark x):OkC Tryz.prog 107 s_tie_mark :=
 okC_vc fun107 mixed (C:=cx_tie_mark) (V:=fun (d:Bool)=>vc_tie_mark d) ⟨.nil,XsOk.nil,ItsOk.nil,YlOk.nil,IysOk.nil⟩ (vq_tie_mark) fun d hp=>h d hp
theorem ok_tie_mark:Ok_tie_mark:=mk_tie_mark fun x _=>by
 cases x <;> simp [vc_tie_mark,markI]
def al_tie_harness_lifted:AL ((Int × List Int) × Int × Int):=(.cons (.agg (.cons (.k (.i .i64)) (.one (.k (.list (.i .i64)))))) (.cons (.k (.i .i64)) (.one (.k (.i .i64)))))
def pre_tie_harness_lifted (d:(Int × List Int) × Int × Int):Prop:=0 ≤ d.2.2∧d.2.2 < d.1.2.length∧0 ≤ d.2.1∧d.2.1 < 9223372036854775808∧∀ x ∈ d.1.2,0 ≤ x∧x ≤ 60
def res_tie_harness_lifted (d:(Int × List Int) × Int × Int):SV:=.val .bo (d.2.1.toNat.testBit (d.1.2.getD d.2.2.toNat 0).toNat)
def obs_tie_harness_lifted (d:(Int × List Int) × Int × Int):List OB:=[]
def s_tie_harness_lifted:CSp:=mkSp al_tie_harness_lifted pre_tie_harness_lifted res_tie_harness_lifted obs_tie_harness_lifted
def vc_tie_harness_lifted (hk:Int) (lw:List Int) (row:Int) (w:Int):Prop :=
 (0 ≤ w)∧(w < (List.length lw))∧(0 ≤ (gD lw w 0))∧(((vbits .and .i64 (shrI .i64 row (gD lw w 0)) (1:Int)) == (1:Int))=(row.toNat.testBit (lw.getD w.toNat 0).toNat)∧(True))
def cx_tie_harness_lifted:Cx:=⟨[],[],17,[],0,[],[],[],[],false,[],[],[]⟩
def lp_tie_harness_lifted (hk:Int) (lw:List Int) (row:Int) (w:Int):List (Nat × LoopAnn):=[]
set_option maxRecDepth 100000 in
theorem vq_tie_harness_lifted (d:(Int × List Int) × Int × Int):gwp (cx_tie_harness_lifted) (lp_tie_harness_lifted d.1.1 d.1.2 d.2.1 d.2.2) c108 0 (gend [.tmp 6] (res_tie_harness_lifted d) (obs_tie_harness_lifted d)) (gstart 17 (AL.can al_tie_harness_lifted d))=vc_tie_harness_lifted d.1.1 d.1.2 d.2.1 d.2.2:=by kernel_rfl
abbrev Ok_tie_harness_lifted:Prop:=OkC Tryz.prog 108 s_tie_harness_lifted
theorem mk_tie_harness_lifted (h:∀ (hk:Int) (lw:List Int) (row:Int) (w:Int),(0 ≤ w∧w < lw.length∧0 ≤ row∧row < 9223372036854775808∧∀ x ∈ lw,0 ≤ x∧x ≤ 60)→vc_tie_harness_lifted hk lw row w):OkC Tryz.prog 108 s_tie_harness_lifted :=
 okC_vc fun108 mixed (C:=cx_tie_harness_lifted) (V:=fun (d:(Int × List Int) × Int × Int)=>vc_tie_harness_lifted d.1.1 d.1.2 d.2.1 d.2.2) ⟨.nil,XsOk.nil,ItsOk.nil,YlOk.nil,IysOk.nil⟩ (vq_tie_harness_lifted) fun d hp=>h d.1.1 d.1.2 d.2.1 d.2.2 hp
theorem ok_tie_harness_lifted:Ok_tie_harness_lifted:=mk_tie_harness_lifted fun hk lw row w h=>by
 obtain ⟨h1,h2,h3,h4,h5⟩:=h
 obtain ⟨w,rfl⟩:=Int.eq_ofNat_of_zero_le h1
 obtain ⟨r,rfl⟩:=Int.eq_ofNat_of_zero_le h3
 have hw:w < lw.length:=by omega
 have hx:=h5 _ (List.getElem_mem hw)
 obtain ⟨k,hk⟩:=Int.eq_ofNat_of_zero_le hx.1
 unfold vc_tie_harness_lifted; (try delta lI gD sT I64); simp only [and_true,Int.toNat_natCast,Int.ofNat_lt,getD_nat hw,hk]
 refine ⟨by omega,by omega,by omega,?_⟩
 exact shr_bit (by omega) (by omega)
end Go.Proofs.Tryz
set_option linter.unusedVariables false
namespace Go.Proofs.Tryz
open Go Go.V Go.Proofs
def cx_strings_Builder_copyCheck:Cx:=⟨[],[],20,[],0,[(152,sameX)],[],[],[],false,[],[],[]⟩
def x_strings_Builder_copyCheck:XSp:=inlX cx_strings_Builder_copyCheck (fun _=>[]) c135 [] 20
theorem okx_strings_Builder_copyCheck:XOk Tryz.prog 135 x_strings_Builder_copyCheck:=inlX_ok fun135 mixed (C:=cx_strings_Builder_copyCheck) ⟨.nil,(XsOk.cons (sameX_ok same152) XsOk.nil),ItsOk.nil,YlOk.nil,IysOk.nil⟩ _
def cx_strings_Builder_WriteByte:Cx:=⟨[(5,(.i .u8))],[],17,[],0,[(135,x_strings_Builder_copyCheck)],[],[],[],false,[],[],[]⟩
def x_strings_Builder_WriteByte:XSp:=inlX cx_strings_Builder_WriteByte (fun _=>[]) c106 [.tmp 4] 17
theorem okx_strings_Builder_WriteByte:XOk Tryz.prog 106 x_strings_Builder_WriteByte:=inlX_ok fun106 mixed (C:=cx_strings_Builder_WriteByte) ⟨.nil,(XsOk.cons okx_strings_Builder_copyCheck XsOk.nil),ItsOk.nil,YlOk.nil,IysOk.nil⟩ _
def cx_strings_Builder_String:Cx:=⟨[],[],14,[],0,[],[],[],[],false,[],[],[]⟩
def x_strings_Builder_String:XSp:=inlX cx_strings_Builder_String (fun _=>[]) c109 [.tmp 2] 14
theorem okx_strings_Builder_String:XOk Tryz.prog 109 x_strings_Builder_String:=inlX_ok fun109 mixed (C:=cx_strings_Builder_String) ⟨.nil,XsOk.nil,ItsOk.nil,YlOk.nil,IysOk.nil⟩ _
def al_tie_harness_pick:AL ((Int × List Int) × Int):=(.cons (.agg (.cons (.k (.i .i64)) (.one (.k (.list (.i .i64)))))) (.one (.k (.i .i64))))
def pre_tie_harness_pick (d:(Int × List Int) × Int):Prop:=d.1.2.length ≤ 110∧0 ≤ d.2∧d.2 < 9223372036854775808∧∀ x ∈ d.1.2,0 ≤ x∧x ≤ 60
def res_tie_harness_pick (d:(Int × List Int) × Int):SV:=.val .st (pickS d.1.2 d.2)
def obs_tie_harness_pick (d:(Int × List Int) × Int):List OB:=[]
def s_tie_harness_pick:CSp:=mkSp al_tie_harness_pick pre_tie_harness_pick res_tie_harness_pick obs_tie_harness_pick
def vc_tie_harness_pick (hk:Int) (lw:List Int) (row:Int):Prop :=
 ∃ (e4:Unit) (d40:Bool × (List Int) × Int),((row=row∧True∧True∧(lI lw)=(lI lw)∧(0:Int)=d40.2.2∧True)∧((hk=hk∧lw=lw∧(([]:List SV)=[]))∧(d40.1=false∧True∧(([]:List SV)=[]))∧(d40.2.1=[]∧(List.isEmpty d40.2.1)=true)∧True)) ∧
 LoopP (fun (d4:Bool × (List Int) × Int) (q4:(Bool × (List Int) × Int)→Prop) =>
  ((decide (d4.2.2 < (lI lw)))=true →
   (0 ≤ d4.2.2∧d4.2.2 < lw.length∧0 ≤ row∧row < 9223372036854775808∧∀ x ∈ lw,0 ≤ x∧x ≤ 60)∧(True)∧∀ w5:List Value,∀ w6:List Value,((!d4.1)=true →
    w6=w6∧(((List.length d4.2.1) + (List.length [(markI (row.toNat.testBit (lw.getD d4.2.2.toNat 0).toNat))])) * 1 ≤ 70368744177664)∧w5=w5∧(I64 (d4.2.2 + (1:Int)))∧(∃ d7:Bool × (List Int) × Int,((row=row∧True∧True∧(lI lw)=(lI lw)∧(d4.2.2 + (1:Int))=d7.2.2∧True)∧((hk=hk∧lw=lw∧(([]:List SV)=[]))∧(d7.1=true∧True∧(([]:List SV)=[]))∧((d4.2.1++[(markI (row.toNat.testBit (lw.getD d4.2.2.toNat 0).toNat))])=d7.2.1∧false=(List.isEmpty d7.2.1))∧True))∧q4 d7)) ∧
   ((!d4.1)=false →
    (d4.1=true)∧((!true)=true →
     False) ∧
    ((!true)=false →
     w6=w6∧(((List.length d4.2.1) + (List.length [(markI (row.toNat.testBit (lw.getD d4.2.2.toNat 0).toNat))])) * 1 ≤ 70368744177664)∧w5=w5∧(I64 (d4.2.2 + (1:Int)))∧(∃ d8:Bool × (List Int) × Int,((row=row∧True∧True∧(lI lw)=(lI lw)∧(d4.2.2 + (1:Int))=d8.2.2∧True)∧((hk=hk∧lw=lw∧(([]:List SV)=[]))∧(d4.1=d8.1∧True∧(([]:List SV)=[]))∧((d4.2.1++[(markI (row.toNat.testBit (lw.getD d4.2.2.toNat 0).toNat))])=d8.2.1∧false=(List.isEmpty d8.2.1))∧True))∧q4 d8)))) ∧
  ((decide (d4.2.2 < (lI lw)))=false →
   ∀ w9:List Value,((List.isEmpty d4.2.1)=false→d4.2.1 ≠ [])∧((lI d4.2.1)=(List.length d4.2.1))∧((List.length d4.2.1) ≤ 4611686018427387904)∧w9=w9∧((bytesI d4.2.1)=(pickS lw row)∧(True)))) d40
def cx_tie_harness_pick:Cx:=⟨[(5,(.i .u8))],[(108,s_tie_harness_lifted),(107,s_tie_mark)],22,[],0,[(106,x_strings_Builder_WriteByte),(135,x_strings_Builder_copyCheck),(152,sameX),(109,x_strings_Builder_String)],[],[],[],false,[],[],[]⟩
def lp_tie_harness_pick (hk:Int) (lw:List Int) (row:Int):List (Nat × LoopAnn):=[(0,⟨Unit,Bool × (List Int) × Int,[1,2,5,10,11],fun e x=>[.val (.i .i64) row,.box 2 0,.box 5 0,.val (.i .i64) (((List.length lw):Nat):Int),.val (.i .i64) x.2.2],fun e x=>[(2,.slot 2,.cells [.val (.i .i64) hk,.val (.list (.i .i64)) lw] (some 120)),(5,.slot 5,.cells [.dd 5 (.obx x.1),.lst 2000014] (some 175)),(2000014,.cell 5 1,.lst 5 (.i .u8) x.2.1 (List.isEmpty x.2.1))]⟩)]
set_option maxRecDepth 100000 in
theorem vq_tie_harness_pick (d:(Int × List Int) × Int):gwp (cx_tie_harness_pick) (lp_tie_harness_pick d.1.1 d.1.2 d.2) c72 0 (gend [.tmp 4] (res_tie_harness_pick d) (obs_tie_harness_pick d)) (gstart 22 (AL.can al_tie_harness_pick d))=vc_tie_harness_pick d.1.1 d.1.2 d.2:=by kernel_rfl
abbrev Ok_tie_harness_pick:Prop:=OkC Tryz.prog 72 s_tie_harness_pick
theorem mk_tie_harness_pick (h:∀ (hk:Int) (lw:List Int) (row:Int),(lw.length ≤ 110∧0 ≤ row∧row < 9223372036854775808∧∀ x ∈ lw,0 ≤ x∧x ≤ 60)→vc_tie_harness_pick hk lw row):OkC Tryz.prog 72 s_tie_harness_pick :=
 okC_vc fun72 mixed (C:=cx_tie_harness_pick) (V:=fun (d:(Int × List Int) × Int)=>vc_tie_harness_pick d.1.1 d.1.2 d.2) ⟨(.cons ok_tie_harness_lifted (.cons ok_tie_mark .nil)),(XsOk.cons okx_strings_Builder_WriteByte (XsOk.cons okx_strings_Builder_copyCheck (XsOk.cons (sameX_ok same152) (XsOk.cons okx_strings_Builder_String XsOk.nil)))),ItsOk.nil,YlOk.nil,IysOk.nil⟩ (vq_tie_harness_pick) fun d hp=>h d.1.1 d.1.2 d.2 hp
theorem bytes_mark (lw:List Int) (row:Int):bytesI (lw.map fun k=>markI (row.toNat.testBit k.toNat))=pickS lw row:=by
 simp only [bytesI,pickS,List.map_map]
 refine List.map_congr_left fun k _=>?_
 simp only [Function.comp,markI]
 split <;> rfl
theorem ok_tie_harness_pick:Ok_tie_harness_pick:=mk_tie_harness_pick fun hk lw row h=>by
 obtain ⟨h1,h2,h3,h4⟩:=h
 unfold vc_tie_harness_pick; (try delta lI gD sT I64); simp only [true_and,and_true,exists_const,decide_eq_true_eq,decide_eq_false_iff_not,ne_eq,Bool.not_eq_true',Bool.not_eq_false',InK_i64]
 refine ⟨(false,[],0),⟨rfl,rfl,rfl,rfl⟩,?_⟩
 refine ⟨fun d=>∃ i:Nat,i ≤ lw.length∧d.2.2=i∧d.2.1=(lw.take i).map fun k=>markI (row.toNat.testBit k.toNat),fun d=>lw.length - d.2.2.toNat,⟨0,Nat.zero_le _,rfl,by simp⟩,?_⟩
 rintro ⟨c,xs,_⟩ ⟨i,hi,rfl,hxs⟩
 dsimp only at hxs ⊢
 have hxl:xs.length=i:=by rw [hxs]; simp; omega
 refine ⟨fun hlt=>?_,fun hge=>?_⟩
 ·have hlt:i < lw.length:=by omega
  have hn:xs++[markI (row.toNat.testBit lw[i].toNat)]=(lw.take (i + 1)).map fun k=>markI (row.toNat.testBit k.toNat):=by rw [hxs,take_succ_eq hlt,List.map_append]; rfl
  simp only [Int.toNat_natCast,getD_nat hlt,List.length_singleton]
  refine ⟨⟨by omega,by omega,h2,h3,h4⟩,fun _ w6=>⟨fun hc=>?_,fun hc=>?_⟩⟩
  ·exact ⟨by omega,by omega,(true,xs++[markI (row.toNat.testBit lw[i].toNat)],(i:Int) + 1),⟨rfl,rfl,rfl,by simp⟩,⟨i + 1,by omega,by simp,hn⟩,by dsimp only; omega⟩
  ·refine ⟨by simpa using hc,?_⟩
   refine ⟨fun h=>by simp at h,fun _=>?_⟩
   exact ⟨by omega,by omega,(c,xs++[markI (row.toNat.testBit lw[i].toNat)],(i:Int) + 1),⟨rfl,rfl,rfl,by simp⟩,⟨i + 1,by omega,by simp,hn⟩,by dsimp only; omega⟩
 ·have:i=lw.length:=by omega
  subst this
  rw [List.take_length] at hxs
  refine fun _=>⟨?_,by omega,?_⟩
  ·intro hne h0; rw [h0] at hne; simp at hne
  ·rw [hxs]; exact bytes_mark lw row
end Go.Proofs.Tryz
set_option linter.unusedVariables false
namespace Go.Proofs.Tryz
open Go Go.V Go.Proofs
def al_tie_Weave:AL ((Int × List Int) × Int × List Int):=(.cons (.agg (.cons (.k (.i .i64)) (.one (.k (.list (.i .i64)))))) (.one (.agg (.cons (.k (.i .i64)) (.one (.k (.list (.i .i64))))))))
def pre_tie_Weave (d:(Int × List Int) × Int × List Int):Prop:=d.1.2.length ≤ 110∧d.2.2.length ≤ 110
def res_tie_Weave (d:(Int × List Int) × Int × List Int):SV:=.tup [.lst 0,.val (.i .i64) (weaveErr d.1.1 d.1.2 d.2.1 d.2.2)]
def obs_tie_Weave (d:(Int × List Int) × Int × List Int):List OB:=[.lst 9 .st (weaveC d.1.1 d.1.2 d.2.1 d.2.2) ((weaveC d.1.1 d.1.2 d.2.1 d.2.2).isEmpty)]
def s_tie_Weave:CSp:=mkSp al_tie_Weave pre_tie_Weave res_tie_Weave obs_tie_Weave
def vc_tie_Weave (hk:Int) (lw:List Int) (hd:Int) (rows:List Int):Prop :=
 (lw.length ≤ 1000000)∧(((tieErr hk lw) != (0:Int))=true →
  ((True∧(tieErr hk lw)=weaveErr hk lw hd rows∧(([]:List SV)=[]))∧(((weaveC hk lw hd rows)=[]∧(weaveC hk lw hd rows).isEmpty=true)∧True))) ∧
 (((tieErr hk lw) != (0:Int))=false →
  (rows.length ≤ 1000000)∧(((pointErr hd rows) != (0:Int))=true →
   ((True∧(pointErr hd rows)=weaveErr hk lw hd rows∧(([]:List SV)=[]))∧(((weaveC hk lw hd rows)=[]∧(weaveC hk lw hd rows).isEmpty=true)∧True))) ∧
  (((pointErr hd rows) != (0:Int))=false →
   ((hd != hk)=true →
    ((True∧(4:Int)=weaveErr hk lw hd rows∧(([]:List SV)=[]))∧(((weaveC hk lw hd rows)=[]∧(weaveC hk lw hd rows).isEmpty=true)∧True))) ∧
   ((hd != hk)=false →
    ∃ (e4:Unit) (d40:(List (List UInt8)) × Int),((True∧True∧rows=rows∧(lI rows)=(lI rows)∧(0:Int)=d40.2∧True)∧((hk=hk∧lw=lw∧(([]:List SV)=[]))∧(d40.1=[]∧(List.isEmpty d40.1)=true)∧True)) ∧
    LoopP (fun (d4:(List (List UInt8)) × Int) (q4:((List (List UInt8)) × Int)→Prop) =>
     ((decide (d4.2 < (lI rows)))=true →
      (0 ≤ d4.2)∧(d4.2 < (List.length rows))∧(lw.length ≤ 110∧0 ≤ (gD rows d4.2 0)∧(gD rows d4.2 0) < 9223372036854775808∧∀ x ∈ lw,0 ≤ x∧x ≤ 60)∧(((List.length d4.1) + (List.length [(pickS lw (gD rows d4.2 0))])) * 16 ≤ 70368744177664)∧(I64 (d4.2 + (1:Int)))∧(∃ d5:(List (List UInt8)) × Int,((True∧True∧rows=rows∧(lI rows)=(lI rows)∧(d4.2 + (1:Int))=d5.2∧True)∧((hk=hk∧lw=lw∧(([]:List SV)=[]))∧((d4.1++[(pickS lw (gD rows d4.2 0))])=d5.1∧false=(List.isEmpty d5.1))∧True))∧q4 d5)) ∧
     ((decide (d4.2 < (lI rows)))=false →
      ((True∧(0:Int)=weaveErr hk lw hd rows∧(([]:List SV)=[]))∧((d4.1=(weaveC hk lw hd rows)∧(List.isEmpty d4.1)=(weaveC hk lw hd rows).isEmpty)∧True)))) d40)))
def cx_tie_Weave:Cx:=⟨[(9,.st)],[(58,s_tie_Check),(71,s_point_Check),(72,s_tie_harness_pick)],43,[],0,[],[],[],[],false,[],[],[]⟩
def lp_tie_Weave (hk:Int) (lw:List Int) (hd:Int) (rows:List Int):List (Nat × LoopAnn):=[(1,⟨Unit,(List (List UInt8)) × Int,[2,4,28,29,30],fun e x=>[.box 2 0,.lst 40,.val (.list (.i .i64)) rows,.val (.i .i64) (((List.length rows):Nat):Int),.val (.i .i64) x.2],fun e x=>[(2,.slot 2,.cells [.val (.i .i64) hk,.val (.list (.i .i64)) lw] (some 26)),(40,.slot 4,.lst 9 .st x.1 (List.isEmpty x.1))]⟩)]
set_option maxRecDepth 100000 in
theorem vq_tie_Weave (d:(Int × List Int) × Int × List Int):gwp (cx_tie_Weave) (lp_tie_Weave d.1.1 d.1.2 d.2.1 d.2.2) c21 0 (gend [.tmp 4,.tmp 5] (res_tie_Weave d) (obs_tie_Weave d)) (gstart 43 (AL.can al_tie_Weave d))=vc_tie_Weave d.1.1 d.1.2 d.2.1 d.2.2:=by kernel_rfl
abbrev Ok_tie_Weave:Prop:=OkC Tryz.prog 21 s_tie_Weave
theorem mk_tie_Weave (h:∀ (hk:Int) (lw:List Int) (hd:Int) (rows:List Int),(lw.length ≤ 110∧rows.length ≤ 110)→vc_tie_Weave hk lw hd rows):OkC Tryz.prog 21 s_tie_Weave :=
 okC_vc fun21 mixed (C:=cx_tie_Weave) (V:=fun (d:(Int × List Int) × Int × List Int)=>vc_tie_Weave d.1.1 d.1.2 d.2.1 d.2.2) ⟨(.cons ok_tie_Check (.cons ok_point_Check (.cons ok_tie_harness_pick .nil))),XsOk.nil,ItsOk.nil,YlOk.nil,IysOk.nil⟩ (vq_tie_Weave) fun d hp=>h d.1.1 d.1.2 d.2.1 d.2.2 hp
theorem pointErr_zero {hd:Int} {rows:List Int} (h:pointErr hd rows=0):1 ≤ hd∧hd ≤ 24∧rows.length ≤ 60∧rows.length ≠ 0∧∀ x ∈ rows,0 ≤ x∧x < 2 ^ hd.toNat:=by
 unfold pointErr at h
 split at h
 ·cases h
 ·rename_i h1
  split at h
  ·cases h
  ·rename_i h2
   split at h
   ·cases h
   ·rename_i h3
    split at h
    ·cases h
    ·rename_i h4
     have h1:1 ≤ hd∧hd ≤ 24:=by simpa [inI] using h1
     refine ⟨h1.1,h1.2,by omega,h3,fun x hx=>?_⟩
     have h5:∀ x ∈ rows,inI x 0 (2 ^ hd.toNat - 1)=true:=by simpa using h4
     have:=h5 x hx
     simp only [inI,Bool.and_eq_true,decide_eq_true_eq] at this
     omega
theorem ok_tie_Weave:Ok_tie_Weave:=mk_tie_Weave fun hk lw hd rows h=>by
 obtain ⟨h1,h2⟩:=h
 unfold vc_tie_Weave; (try delta lI gD sT I64); simp only [true_and,and_true,exists_const,decide_eq_true_eq,decide_eq_false_iff_not,bne_iff_ne,ne_eq,bne_eq_false_iff_eq,InK_i64]
 refine ⟨by omega,fun he=>?_,fun he=>⟨by omega,fun hp=>?_,fun hp=>⟨fun hh=>?_,fun hh=>?_⟩⟩⟩
 ·have e:weaveErr hk lw hd rows=tieErr hk lw:=by simp [weaveErr,he]
  have e2:weaveC hk lw hd rows=[]:=by simp [weaveC,e,he]
  rw [e,e2]; exact ⟨rfl,rfl,rfl⟩
 ·have e:weaveErr hk lw hd rows=pointErr hd rows:=by simp [weaveErr,he,hp]
  have e2:weaveC hk lw hd rows=[]:=by simp [weaveC,e,hp]
  rw [e,e2]; exact ⟨rfl,rfl,rfl⟩
 ·have e:weaveErr hk lw hd rows=4:=by simp [weaveErr,he,hp,hh]
  have e2:weaveC hk lw hd rows=[]:=by simp [weaveC,e]
  rw [e,e2]; exact ⟨rfl,rfl,rfl⟩
 have e:weaveErr hk lw hd rows=0:=by unfold weaveErr; rw [if_neg (by omega),if_neg (by omega),if_neg (by omega)]
 have e2:weaveC hk lw hd rows=rows.map (pickS lw):=by simp [weaveC,e]
 obtain ⟨t1,t2,t3,t4,t5⟩:=tieErr_zero he
 obtain ⟨p1,p2,p3,p4,p5⟩:=pointErr_zero hp
 have hpw:=pow_bound p1 p2
 rw [e,e2]
 refine ⟨([],0),⟨rfl,rfl,rfl⟩,?_⟩
 refine LoopP.count2 rows.length (fun k xs=>xs=(rows.take k).map (pickS lw)) (by simp) fun k xs hk hJ q hq=>?_
 have hxl:xs.length=k:=by rw [hJ]; simp; omega
 dsimp only
 refine ⟨fun hlt=>?_,fun hge=>?_⟩
 ·have hlt:k < rows.length:=by omega
  have hr:=p5 _ (List.getElem_mem hlt)
  simp only [Int.toNat_natCast,getD_nat hlt,List.length_singleton]
  refine ⟨by omega,by omega,⟨h1,hr.1,by omega,fun x hx=>by have:=t5 x hx; omega⟩,by omega,by omega,(xs++[pickS lw rows[k]],(k:Int) + 1),⟨rfl,rfl,by simp⟩,hq _ hlt ?_⟩
  rw [take_succ_eq hlt,List.map_append,←hJ]; rfl
 ·have:k=rows.length:=by omega
  subst this
  rw [List.take_length] at hJ
  rw [hJ]
  exact ⟨rfl,rfl,rfl⟩
end Go.Proofs.Tryz
set_option linter.unusedVariables false
namespace Go.Proofs.Tryz
open Go Go.V Go.Proofs
def rndB (p:List Bool) (w:Nat):Bool:=p.getD (w % p.length) false
def bgB (p:List Bool) (w:Nat):Bool:=rndB p w != rndB p (w + p.length - 1)
theorem rndB_mod (p:List Bool) (w:Nat):rndB p (w % p.length)=rndB p w:=by simp [rndB]
theorem u120 (x:UInt8):(((x.toNat:Nat):Int) == 120)=(x == 120):=by
 rw [Bool.eq_iff_iff,beq_iff_eq,beq_iff_eq]
 constructor
 ·intro h
  have h120:(120:UInt8).toNat=120:=rfl
  exact UInt8.toNat_inj.1 (by omega)
 ·intro h; rw [h]; rfl
theorem not_all {p:List Bool} {f:Nat} (hf:f < p.length) (hb:bgB p f=true):∃ j,j < p.length∧rndB p j ≠ rndB p 0:=by
 by_cases h:rndB p f=rndB p 0
 ·refine ⟨(f + p.length - 1) % p.length,Nat.mod_lt _ (by omega),?_⟩
  rw [rndB_mod,←h]
  have:rndB p f ≠ rndB p (f + p.length - 1):=by simpa [bgB] using hb
  exact Ne.symm this
 ·exact ⟨f,hf,h⟩
theorem pickS_length (lw:List Int) (row:Int):(pickS lw row).length=lw.length:=by simp [pickS]
end Go.Proofs.Tryz
set_option linter.unusedVariables false
namespace Go.Proofs.Tryz
open Go Go.V Go.Proofs
def lOk (h8:Int) (ws rs:List Int):Prop:=0 ≤ h8∧h8 ≤ 255∧u8s ws∧u16s rs
def chkErr (ds:List (Int × List Int)):Int:=match ds.find? (fun d=>decide (pointErr d.1 d.2 ≠ 0)) with | some d=>pointErr d.1 d.2 | none=>0
def sbErr (hd:Int) (rows:List Int) (hd1:Int) (rows1:List Int):Int:=if pointErr hd rows ≠ 0 then pointErr hd rows else if pointErr hd1 rows1 ≠ 0 then pointErr hd1 rows1 else if rows.length ≠ rows1.length then 4 else if 24 < hd + hd1 then 8 else 0
def sbK (hd:Int) (rows rows1:List Int) (k:Nat):List Int:=(List.range k).map fun i=>(((rows.getD i 0).toNat ||| ((rows1.getD i 0).toNat <<< hd.toNat):Nat):Int)
def sbR (hd:Int) (rows:List Int) (hd1:Int) (rows1:List Int):List Int:=if sbErr hd rows hd1 rows1=0 then sbK hd rows rows1 rows.length else []
def madeV (n:Nat) (q:Nat→Bool):Nat:=bitsV ((List.range n).map q)
def madeR (pk hk:Nat) (p:Int × Int→Bool):List Int:=(List.range pk).map fun (i:Nat)=>((madeV hk (fun j=>p ((i:Int),(j:Int))):Nat):Int)
def rfN (hd:Int):Int:=hd + gmax 0 (hd - 2)
def rfErr (hd:Int) (rows:List Int):Int:=if pointErr hd rows ≠ 0 then pointErr hd rows else if 24 < rfN hd then 8 else 0
def rfP (hd:Int) (rows:List Int) (n:Int) (x:Int × Int):Bool:=(rows.getD (Int.tmod x.1 rows.length).toNat 0).toNat.testBit (Int.tmod (gmin x.2 (gmax 0 (n - x.2))) hd).toNat
def rfR (hd:Int) (rows:List Int):List Int:=if rfErr hd rows=0 then madeR rows.length (rfN hd).toNat (rfP hd rows (rfN hd)) else []
def rightB (c:List (List UInt8)) (pk wp:Int):Bool:=c.all (fun s=>decide ((s.length:Int)=wp)) && decide ((c.length:Int)=pk)
def showB (c:List (List UInt8)) (hd:Int) (rows:List Int):Bool:=rightB c rows.length hd && (List.range c.length).all fun i=>(List.range hd.toNat).all fun w=>((c.getD i []).getD w 0 == 120) == (rows.getD i 0).toNat.testBit w
theorem bitsV_snoc:∀ (l:List Bool) (b:Bool),bitsV (l++[b])=bitsV l ||| (if b then 1 <<< l.length else 0):=by
 intro l b
 refine Nat.eq_of_testBit_eq fun k=>?_
 rw [bitsV_bit,Nat.testBit_or,bitsV_bit]
 rcases Nat.lt_trichotomy k l.length with h | h | h
 ·rw [List.getD_eq_getElem?_getD,List.getElem?_append_left h,←List.getD_eq_getElem?_getD]
  cases b
  ·simp
  ·simp only [if_true,Nat.one_shiftLeft,Nat.testBit_two_pow]
   have:¬ l.length=k:=by omega
   simp [this]
 ·subst h
  cases b
  ·simp [List.getD_eq_getElem?_getD]
  ·simp [List.getD_eq_getElem?_getD,Nat.one_shiftLeft]
 ·have h1:(l++[b]).getD k false=false:=by
   rw [List.getD_eq_getElem?_getD,List.getElem?_eq_none (by simp; omega)]; rfl
  have h2:l.getD k false=false:=by
   rw [List.getD_eq_getElem?_getD,List.getElem?_eq_none (by omega)]; rfl
  rw [h1,h2]
  cases b
  ·simp
  ·simp only [if_true,Nat.one_shiftLeft,Nat.testBit_two_pow]
   have:¬ l.length=k:=by omega
   simp [this]
theorem madeV_succ (n:Nat) (q:Nat→Bool):madeV (n + 1) q=madeV n q ||| (if q n then 1 <<< n else 0):=by
 unfold madeV
 rw [List.range_succ,List.map_append,List.map_cons,List.map_nil,bitsV_snoc]
 simp
theorem madeV_lt (n:Nat) (q:Nat→Bool):madeV n q < 2 ^ n:=by
 have:=bitsV_lt ((List.range n).map q)
 simpa [madeV] using this
theorem madeV_bit {n:Nat} {q:Nat→Bool} {k:Nat} (h:k < n):(madeV n q).testBit k=q k:=by
 unfold madeV
 rw [bitsV_bit,getD_nat (by simpa using h)]
 simp
theorem madeR_length (pk hk:Nat) (p:Int × Int→Bool):(madeR pk hk p).length=pk:=by simp [madeR]
theorem madeR_getD {pk hk:Nat} {p:Int × Int→Bool} {i:Nat} (h:i < pk):(madeR pk hk p).getD i 0=((madeV hk (fun j=>p ((i:Int),(j:Int))):Nat):Int):=by
 rw [getD_nat (by rw [madeR_length]; exact h)]; simp [madeR]
theorem sbK_succ (hd:Int) (rows rows1:List Int) (k:Nat):sbK hd rows rows1 (k + 1)=sbK hd rows rows1 k++[(((rows.getD k 0).toNat ||| ((rows1.getD k 0).toNat <<< hd.toNat):Nat):Int)]:=by
 simp only [sbK,List.range_succ,List.map_append,List.map_cons,List.map_nil]
theorem chkErr_two (a b:Int × List Int):chkErr [a,b]=if pointErr a.1 a.2 ≠ 0 then pointErr a.1 a.2 else pointErr b.1 b.2:=by
 unfold chkErr
 by_cases h1:pointErr a.1 a.2=0 <;> by_cases h2:pointErr b.1 b.2=0 <;> simp [h1,h2]
theorem showB_iff {c:List (List UInt8)} {hd:Int} {rows:List Int}:showB c hd rows=true ↔ rightB c rows.length hd=true∧∀ i,i < c.length→∀ w,w < hd.toNat→((c.getD i []).getD w 0 == 120)=(rows.getD i 0).toNat.testBit w:=by
 simp only [showB,Bool.and_eq_true,List.all_eq_true,List.mem_range,beq_iff_eq]
theorem rightB_iff {c:List (List UInt8)} {pk wp:Int}:rightB c pk wp=true ↔ (∀ s ∈ c,(s.length:Int)=wp)∧(c.length:Int)=pk:=by
 simp only [rightB,Bool.and_eq_true,List.all_eq_true,decide_eq_true_eq]
theorem hkN_range {m h8:Int} (hm:0 < m) (h:0 ≤ h8):1 ≤ hkN m h8∧hkN m h8 ≤ m:=by
 have h1:=Int.tmod_nonneg m h
 have h2:=Int.tmod_lt_of_pos h8 hm
 simp only [hkN]; omega
def al_law03_Loom_design:AL (Int × List Int × List Int):=(.one (.agg (.cons (.k (.i .u8)) (.cons (.k (.list (.i .u8))) (.one (.k (.list (.i .u16))))))))
def pre_law03_Loom_design (d:Int × List Int × List Int):Prop:=lOk d.1 d.2.1 d.2.2
def res_law03_Loom_design (d:Int × List Int × List Int):SV:=.agg [.val (.i .i64) (hkN 16 d.1),.lst 0]
def obs_law03_Loom_design (d:Int × List Int × List Int):List OB:=[.lst 3 (.i .i64) (rowsN (hkN 16 d.1) 12 d.2.2) false]
def s_law03_Loom_design:CSp:=mkSp al_law03_Loom_design pre_law03_Loom_design res_law03_Loom_design obs_law03_Loom_design
def vc_law03_Loom_design (h8:Int) (ws:List Int) (rs:List Int):Prop :=
 (I64 h8)∧((16:Int) ≠ 0)∧(I64 ((1:Int) + (Int.tmod h8 (16:Int))))∧∃ (e4:Unit) (d40:(List Int) × Int),((True∧True∧True∧(0:Int)=d40.2∧True)∧((h8=h8∧ws=ws∧rs=rs∧(([]:List SV)=[]))∧((0:Int)=(0:Int)∧True∧(([]:List SV)=[]))∧(((1:Int) + (Int.tmod h8 (16:Int)))=((1:Int) + (Int.tmod h8 (16:Int)))∧True∧(([]:List SV)=[]))∧(d40.1=[]∧(List.isEmpty d40.1)=true)∧True)) ∧
 LoopP (fun (d4:(List Int) × Int) (q4:((List Int) × Int)→Prop) =>
  (((d4.2 == (0:Int)) || ((decide (d4.2 < (lI rs))) && (decide (d4.2 < (12:Int)))))=true →
   ((decide (d4.2 < (lI rs)))=true →
    (0 ≤ d4.2)∧(d4.2 < (List.length rs))∧(I64 (gD rs d4.2 0))∧(InK .u64 ((1:Int) + (Int.tmod h8 (16:Int))))∧(0 ≤ ((1:Int) + (Int.tmod h8 (16:Int))))∧(I64 (shlI .i64 (1:Int) ((1:Int) + (Int.tmod h8 (16:Int)))))∧(I64 ((shlI .i64 (1:Int) ((1:Int) + (Int.tmod h8 (16:Int)))) - (1:Int)))∧(((List.length d4.1) + (List.length [(vbits .and .i64 (gD rs d4.2 0) ((shlI .i64 (1:Int) ((1:Int) + (Int.tmod h8 (16:Int)))) - (1:Int)))])) * 8 ≤ 70368744177664)∧(I64 (d4.2 + (1:Int)))∧(∃ d5:(List Int) × Int,((True∧True∧True∧(d4.2 + (1:Int))=d5.2∧True)∧((h8=h8∧ws=ws∧rs=rs∧(([]:List SV)=[]))∧((0:Int)=(0:Int)∧True∧(([]:List SV)=[]))∧(((1:Int) + (Int.tmod h8 (16:Int)))=((1:Int) + (Int.tmod h8 (16:Int)))∧True∧(([]:List SV)=[]))∧((d4.1++[(vbits .and .i64 (gD rs d4.2 0) ((shlI .i64 (1:Int) ((1:Int) + (Int.tmod h8 (16:Int)))) - (1:Int)))])=d5.1∧false=(List.isEmpty d5.1))∧True))∧q4 d5)) ∧
   ((decide (d4.2 < (lI rs)))=false →
    (InK .u64 ((1:Int) + (Int.tmod h8 (16:Int))))∧(0 ≤ ((1:Int) + (Int.tmod h8 (16:Int))))∧(I64 (shlI .i64 (1:Int) ((1:Int) + (Int.tmod h8 (16:Int)))))∧(I64 ((shlI .i64 (1:Int) ((1:Int) + (Int.tmod h8 (16:Int)))) - (1:Int)))∧(((List.length d4.1) + (List.length [(vbits .and .i64 (21:Int) ((shlI .i64 (1:Int) ((1:Int) + (Int.tmod h8 (16:Int)))) - (1:Int)))])) * 8 ≤ 70368744177664)∧(I64 (d4.2 + (1:Int)))∧(∃ d6:(List Int) × Int,((True∧True∧True∧(d4.2 + (1:Int))=d6.2∧True)∧((h8=h8∧ws=ws∧rs=rs∧(([]:List SV)=[]))∧((0:Int)=(0:Int)∧True∧(([]:List SV)=[]))∧(((1:Int) + (Int.tmod h8 (16:Int)))=((1:Int) + (Int.tmod h8 (16:Int)))∧True∧(([]:List SV)=[]))∧((d4.1++[(vbits .and .i64 (21:Int) ((shlI .i64 (1:Int) ((1:Int) + (Int.tmod h8 (16:Int)))) - (1:Int)))])=d6.1∧false=(List.isEmpty d6.1))∧True))∧q4 d6))) ∧
  (((d4.2 == (0:Int)) || ((decide (d4.2 < (lI rs))) && (decide (d4.2 < (12:Int)))))=false →
   ((((1:Int) + (Int.tmod h8 (16:Int)))=(hkN 16 h8)∧True∧(([]:List SV)=[]))∧((d4.1=(rowsN (hkN 16 h8) 12 rs)∧(List.isEmpty d4.1)=false)∧True)))) d40
def cx_law03_Loom_design:Cx:=⟨[(3,(.i .i64))],[],51,[],0,[],[],[],[],false,[],[],[]⟩
def lp_law03_Loom_design (h8:Int) (ws:List Int) (rs:List Int):List (Nat × LoopAnn):=[(0,⟨Unit,(List Int) × Int,[1,2,3,4],fun e x=>[.box 1 0,.box 2 0,.box 3 0,.val (.i .i64) x.2],fun e x=>[(1,.slot 1,.cells [.val (.i .u8) h8,.val (.list (.i .u8)) ws,.val (.list (.i .u16)) rs] (some 85)),(2,.slot 2,.cells [.val (.i .i64) (0:Int),.nilS] (some 36)),(3,.slot 3,.cells [.val (.i .i64) ((1:Int) + (Int.tmod h8 (16:Int))),.lst 48] (some 36)),(48,.cell 3 1,.lst 3 (.i .i64) x.1 (List.isEmpty x.1))]⟩)]
set_option maxRecDepth 100000 in
theorem vq_law03_Loom_design (d:Int × List Int × List Int):gwp (cx_law03_Loom_design) (lp_law03_Loom_design d.1 d.2.1 d.2.2) c49 0 (gend [.cell 2 true 2] (res_law03_Loom_design d) (obs_law03_Loom_design d)) (gstart 51 (AL.can al_law03_Loom_design d))=vc_law03_Loom_design d.1 d.2.1 d.2.2:=by kernel_rfl
abbrev Ok_law03_Loom_design:Prop:=OkC Tryz.prog 49 s_law03_Loom_design
theorem mk_law03_Loom_design (h:∀ (h8:Int) (ws:List Int) (rs:List Int),(lOk h8 ws rs)→vc_law03_Loom_design h8 ws rs):OkC Tryz.prog 49 s_law03_Loom_design :=
 okC_vc fun49 mixed (C:=cx_law03_Loom_design) (V:=fun (d:Int × List Int × List Int)=>vc_law03_Loom_design d.1 d.2.1 d.2.2) ⟨.nil,XsOk.nil,ItsOk.nil,YlOk.nil,IysOk.nil⟩ (vq_law03_Loom_design) fun d hp=>h d.1 d.2.1 d.2.2 hp
theorem and_mask {x h:Int} (h0:0 ≤ x) (h1:x < 9223372036854775808) (a:1 ≤ h) (b:h ≤ 24):vbits .and .i64 x (shlI .i64 1 h - 1)=x % 2 ^ h.toNat:=by
 obtain ⟨n,rfl⟩:=Int.eq_ofNat_of_zero_le h0
 obtain ⟨m,rfl⟩:=Int.eq_ofNat_of_zero_le (show 0 ≤ h by omega)
 have hp:=pow_bound a b
 rw [shl_one (by omega) (by omega)]
 simp only [Int.toNat_natCast] at hp ⊢
 have e2:((2:Int) ^ m)=((2 ^ m:Nat):Int):=by rw [Int.natCast_pow]; rfl
 rw [e2] at hp ⊢
 have e:(((2 ^ m:Nat):Int) - 1)=((2 ^ m - 1:Nat):Int):=by omega
 rw [e,vand_nat (by omega) (by omega),Nat.and_two_pow_sub_one_eq_mod]
 rfl
theorem rowsN_len {hk:Int} {cap:Nat} {rs:List Int}:(rowsN hk cap rs).length=if rs=[] then 1 else min cap rs.length:=by
 unfold rowsN; split <;> simp
theorem rowsN_get {hk:Int} {cap:Nat} {rs:List Int} {i:Nat} (h:i < rs.length) (hc:i < cap):(rowsN hk cap rs)[i]?=some (rs.getD i 0 % 2 ^ hk.toNat):=by
 have hne:rs ≠ []:=by rintro rfl; simp at h
 unfold rowsN; rw [if_neg hne]
 simp [hc,h]
theorem ok_law03_Loom_design:Ok_law03_Loom_design:=mk_law03_Loom_design fun h8 ws rs h=>by
 obtain ⟨h1,h2,hws,hrs⟩:=h
 have hk:1 ≤ hkN 16 h8∧hkN 16 h8 ≤ 16:=hkN_range (m:=16) (by omega) h1
 have e:(1 + Int.tmod h8 16)=hkN 16 h8:=rfl
 have hp:=pow_bound hk.1 (show hkN 16 h8 ≤ 24 by omega)
 have hs:=shl_one (show 0 ≤ hkN 16 h8 by omega) (show hkN 16 h8 ≤ 62 by omega)
 have hm:∀ x,0 ≤ x→x < 9223372036854775808→vbits .and .i64 x (2 ^ (hkN 16 h8).toNat - 1)=x % 2 ^ (hkN 16 h8).toNat:=fun x a b=>by
  have:=and_mask a b hk.1 (show hkN 16 h8 ≤ 24 by omega)
  rwa [hs] at this
 have hu:InK .u64 (hkN 16 h8):=⟨by show (0:Int) ≤ _; omega,by show _ ≤ (18446744073709551615:Int); omega⟩
 unfold vc_law03_Loom_design; (try delta lI gD sT I64); simp only [true_and,and_true,exists_const,decide_eq_true_eq,decide_eq_false_iff_not,ne_eq,InK_i64,e,hs,hu]
 refine ⟨by omega,by omega,by omega,([],0),⟨rfl,rfl,rfl⟩,?_⟩
 have hN:(rowsN (hkN 16 h8) 12 rs).length=if rs=[] then 1 else min 12 rs.length:=rowsN_len
 have hcond:∀ k:Nat,(((k:Int) == 0) || (decide ((k:Int) < rs.length) && decide ((k:Int) < 12)))=decide (k < (rowsN (hkN 16 h8) 12 rs).length):=fun k=>by
  rw [hN]
  by_cases hz:rs=[]
  ·subst hz
   cases k <;> simp; omega
  ·have:0 < rs.length:=List.length_pos_iff.2 hz
   rw [if_neg hz]
   cases k with
   | zero=>simp; omega
   | succ k =>
    rw [Bool.eq_iff_iff]
    simp; omega
 have hNle:(rowsN (hkN 16 h8) 12 rs).length ≤ 12:=by rw [hN]; split <;> omega
 refine LoopP.count2 (rowsN (hkN 16 h8) 12 rs).length (fun k xs=>xs=(rowsN (hkN 16 h8) 12 rs).take k) (by simp) fun k xs hk' hJ q hq=>?_
 dsimp only
 rw [hcond]
 simp only [decide_eq_true_eq,decide_eq_false_iff_not,Int.toNat_natCast,Int.ofNat_lt]
 refine ⟨fun hlt=>⟨fun hw=>?_,fun hw=>?_⟩,fun hge=>?_⟩
 ·have hw:k < rs.length:=by omega
  have hrs':=hrs _ (List.getElem_mem hw)
  have hk12:k < 12:=by omega
  simp only [getD_nat hw,List.length_singleton]
  have hv:(rowsN (hkN 16 h8) 12 rs)[k]=rs[k] % 2 ^ (hkN 16 h8).toNat:=by
   have:=rowsN_get (hk:=hkN 16 h8) hw hk12
   rw [getD_nat hw] at this
   have h3:=List.getElem?_eq_getElem hlt
   exact Option.some.inj (h3.symm.trans this)
  rw [hm _ (by omega) (by omega)]
  refine ⟨by omega,by omega,by omega,by omega,by omega,by omega,by rw [hJ,List.length_take]; omega,by omega,(xs++[rs[k] % 2 ^ (hkN 16 h8).toNat],(k:Int) + 1),⟨rfl,rfl,by simp⟩,hq _ hlt ?_⟩
  rw [take_succ_eq hlt,←hJ,hv]
 ·have hz:rs=[]:=by
   cases hrs:rs with
   | nil=>rfl
   | cons a l =>
    exfalso
    rw [hN] at hlt
    have:rs ≠ []:=by rw [hrs]; simp
    rw [if_neg this] at hlt
    omega
  have hk0:k=0:=by rw [hN,if_pos hz] at hlt; omega
  subst hk0
  simp only [List.length_singleton]
  rw [hm _ (by omega) (by omega)]
  refine ⟨by omega,by omega,by omega,by rw [hJ,List.length_take]; omega,by omega,(xs++[21 % 2 ^ (hkN 16 h8).toNat],1),⟨rfl,rfl,by simp⟩,hq _ hlt ?_⟩
  rw [take_succ_eq hlt,←hJ]
  simp [rowsN,hz]
 ·have:k=(rowsN (hkN 16 h8) 12 rs).length:=by omega
  subst this
  rw [List.take_length] at hJ
  subst hJ
  refine ⟨rfl,?_⟩
  rw [List.isEmpty_eq_false_iff]
  intro hz
  rw [hz] at hN
  split at hN
  ·cases hN
  ·rename_i hne
   have:=List.length_pos_iff.2 hne
   simp only [List.length_nil] at hN
   omega
def al_law03_right:AL (List (List UInt8) × Int × Int):=(.cons (.k (.list .st)) (.cons (.k (.i .i64)) (.one (.k (.i .i64)))))
def pre_law03_right (d:List (List UInt8) × Int × Int):Prop:=d.1.length ≤ 1000
def res_law03_right (d:List (List UInt8) × Int × Int):SV:=.val .bo (rightB d.1 d.2.1 d.2.2)
def obs_law03_right (d:List (List UInt8) × Int × Int):List OB:=[]
def s_law03_right:CSp:=mkSp al_law03_right pre_law03_right res_law03_right obs_law03_right
def vc_law03_right (c:List (List UInt8)) (pk:Int) (wp:Int):Prop :=
 ∃ (e2:Unit) (d20:Int),((c=c∧pk=pk∧wp=wp∧(0:Int)=d20∧True)∧(True)) ∧
 LoopP (fun (d2:Int) (q2:(Int)→Prop) =>
  ((decide (d2 < (lI c)))=true →
   (0 ≤ d2)∧(d2 < (List.length c))∧(((lI (gD c d2 [])) != wp)=true →
    (false=(rightB c pk wp)∧(True))) ∧
   (((lI (gD c d2 [])) != wp)=false →
    (I64 (d2 + (1:Int)))∧(∃ d3:Int,((c=c∧pk=pk∧wp=wp∧(d2 + (1:Int))=d3∧True)∧(True))∧q2 d3))) ∧
  ((decide (d2 < (lI c)))=false →
   (((lI c) == pk)=(rightB c pk wp)∧(True)))) d20
def cx_law03_right:Cx:=⟨[],[],25,[],0,[],[],[],[],false,[],[],[]⟩
def lp_law03_right (c:List (List UInt8)) (pk:Int) (wp:Int):List (Nat × LoopAnn):=[(0,⟨Unit,Int,[0,1,2,7],fun e x=>[.val (.list .st) c,.val (.i .i64) pk,.val (.i .i64) wp,.val (.i .i64) x],fun e x=>[]⟩)]
set_option maxRecDepth 100000 in
theorem vq_law03_right (d:List (List UInt8) × Int × Int):gwp (cx_law03_right) (lp_law03_right d.1 d.2.1 d.2.2) c50 0 (gend [.tmp 6] (res_law03_right d) (obs_law03_right d)) (gstart 25 (AL.can al_law03_right d))=vc_law03_right d.1 d.2.1 d.2.2:=by kernel_rfl
abbrev Ok_law03_right:Prop:=OkC Tryz.prog 50 s_law03_right
theorem mk_law03_right (h:∀ (c:List (List UInt8)) (pk:Int) (wp:Int),(c.length ≤ 1000)→vc_law03_right c pk wp):OkC Tryz.prog 50 s_law03_right :=
 okC_vc fun50 mixed (C:=cx_law03_right) (V:=fun (d:List (List UInt8) × Int × Int)=>vc_law03_right d.1 d.2.1 d.2.2) ⟨.nil,XsOk.nil,ItsOk.nil,YlOk.nil,IysOk.nil⟩ (vq_law03_right) fun d hp=>h d.1 d.2.1 d.2.2 hp
theorem ok_law03_right:Ok_law03_right:=mk_law03_right fun c pk wp hc=>by
 unfold vc_law03_right; (try delta lI gD sT I64)
 (try simp only [decide_eq_true_eq,decide_eq_false_iff_not])
 refine ⟨(),0,(by and_intros <;> first | rfl | trivial | simp),?_⟩
 refine LoopP.count c.length (fun k=>∀ i,i < k→((c.getD i []).length:Int)=wp) (fun i hi=>by omega) fun k hk hJ q hq=>?_
 simp only [Int.toNat_natCast,InK_i64]
 refine ⟨fun hlt=>⟨by omega,by omega,fun hx=>?_,fun hx=>⟨by omega,_,(by and_intros <;> first | rfl | trivial | simp),hq (by omega) fun i hi=>?_⟩⟩,fun hge=>?_⟩
 ·have hx:((c.getD k []).length:Int) ≠ wp:=by simpa using hx
  refine ⟨Eq.symm ?_,trivial⟩
  rw [Bool.eq_false_iff]
  intro h
  have hkc:k < c.length:=by omega
  rw [getD_nat hkc] at hx
  exact hx ((rightB_iff.1 h).1 _ (List.getElem_mem hkc))
 ·rcases Nat.lt_succ_iff_lt_or_eq.1 hi with hi | rfl
  ·exact hJ i hi
  ·simpa using hx
 ·have hk:k=c.length:=by omega
  subst hk
  refine ⟨?_,trivial⟩
  rw [Bool.eq_iff_iff,rightB_iff,beq_iff_eq]
  refine ⟨fun h=>⟨fun s hs=>?_,h⟩,fun h=>h.2⟩
  obtain ⟨i,hi,rfl⟩:=List.getElem_of_mem hs
  have:=hJ i hi
  rwa [getD_nat hi] at this
def al_law03_group:AL (Int × Int × Int × Int):=(.cons (.k (.i .i64)) (.cons (.k (.i .i64)) (.cons (.k (.i .i64)) (.one (.k (.i .i64))))))
def pre_law03_group (d:Int × Int × Int × Int):Prop:=True
def res_law03_group (d:Int × Int × Int × Int):SV:=.agg [.val (.i .i64) d.1,.val (.i .i64) d.2.1,.val (.i .i64) d.2.2.1,.val (.i .i64) d.2.2.2]
def obs_law03_group (d:Int × Int × Int × Int):List OB:=[]
def s_law03_group:CSp:=mkSp al_law03_group pre_law03_group res_law03_group obs_law03_group
def vc_law03_group (f:Int) (l:Int) (w:Int) (t:Int):Prop :=
 ((f=f∧l=l∧w=w∧t=t∧(([]:List SV)=[]))∧(True))
def cx_law03_group:Cx:=⟨[],[],14,[],0,[],[],[],[],false,[],[],[]⟩
def lp_law03_group (f:Int) (l:Int) (w:Int) (t:Int):List (Nat × LoopAnn):=[]
set_option maxRecDepth 100000 in
theorem vq_law03_group (d:Int × Int × Int × Int):gwp (cx_law03_group) (lp_law03_group d.1 d.2.1 d.2.2.1 d.2.2.2) c54 0 (gend [.cell 8 true 4] (res_law03_group d) (obs_law03_group d)) (gstart 14 (AL.can al_law03_group d))=vc_law03_group d.1 d.2.1 d.2.2.1 d.2.2.2:=by kernel_rfl
abbrev Ok_law03_group:Prop:=OkC Tryz.prog 54 s_law03_group
theorem mk_law03_group (h:∀ (f:Int) (l:Int) (w:Int) (t:Int),(True)→vc_law03_group f l w t):OkC Tryz.prog 54 s_law03_group :=
 okC_vc fun54 mixed (C:=cx_law03_group) (V:=fun (d:Int × Int × Int × Int)=>vc_law03_group d.1 d.2.1 d.2.2.1 d.2.2.2) ⟨.nil,XsOk.nil,ItsOk.nil,YlOk.nil,IysOk.nil⟩ (vq_law03_group) fun d hp=>h d.1 d.2.1 d.2.2.1 d.2.2.2 hp
theorem ok_law03_group:Ok_law03_group:=mk_law03_group fun f l w t _=>by
 unfold vc_law03_group; (try delta lI gD sT I64)
 exact (by and_intros <;> first | rfl | trivial | simp)
def al_point_check:AL (List (Int × List Int)):=(.one (.k (.list (.pair (.i .i64) (.list (.i .i64))))))
def pre_point_check (d:List (Int × List Int)):Prop:=d.length ≤ 1000∧∀ x ∈ d,x.2.length ≤ 1000000
def res_point_check (d:List (Int × List Int)):SV:=.val (.i .i64) (chkErr d)
def obs_point_check (d:List (Int × List Int)):List OB:=[]
def s_point_check:CSp:=mkSp al_point_check pre_point_check res_point_check obs_point_check
def vc_point_check (ds:List (Int × List Int)):Prop :=
 ∃ (e2:Unit) (d20:Int),((ds=ds∧(lI ds)=(lI ds)∧(0:Int)=d20∧True)∧(True)) ∧
 LoopP (fun (d2:Int) (q2:(Int)→Prop) =>
  ((decide (d2 < (lI ds)))=true →
   (0 ≤ d2)∧(d2 < (List.length ds))∧(((gD ds d2 (0,[])).2).length ≤ 1000000)∧(((pointErr ((gD ds d2 (0,[])).1) ((gD ds d2 (0,[])).2)) != (0:Int))=true →
    ((pointErr ((gD ds d2 (0,[])).1) ((gD ds d2 (0,[])).2))=(chkErr ds)∧(True))) ∧
   (((pointErr ((gD ds d2 (0,[])).1) ((gD ds d2 (0,[])).2)) != (0:Int))=false →
    (I64 (d2 + (1:Int)))∧(∃ d3:Int,((ds=ds∧(lI ds)=(lI ds)∧(d2 + (1:Int))=d3∧True)∧(True))∧q2 d3))) ∧
  ((decide (d2 < (lI ds)))=false →
   ((0:Int)=(chkErr ds)∧(True)))) d20
def cx_point_check:Cx:=⟨[],[(71,s_point_Check)],18,[],0,[],[],[],[],false,[],[],[]⟩
def lp_point_check (ds:List (Int × List Int)):List (Nat × LoopAnn):=[(0,⟨Unit,Int,[6,7,8],fun e x=>[.val (.list (.pair (.i .i64) (.list (.i .i64)))) ds,.val (.i .i64) (((List.length ds):Nat):Int),.val (.i .i64) x],fun e x=>[]⟩)]
set_option maxRecDepth 100000 in
theorem vq_point_check (d:List (Int × List Int)):gwp (cx_point_check) (lp_point_check d) c91 0 (gend [.tmp 2] (res_point_check d) (obs_point_check d)) (gstart 18 (AL.can al_point_check d))=vc_point_check d:=by kernel_rfl
abbrev Ok_point_check:Prop:=OkC Tryz.prog 91 s_point_check
theorem mk_point_check (h:∀ (ds:List (Int × List Int)),(ds.length ≤ 1000∧∀ x ∈ ds,x.2.length ≤ 1000000)→vc_point_check ds):OkC Tryz.prog 91 s_point_check :=
 okC_vc fun91 mixed (C:=cx_point_check) (V:=fun (d:List (Int × List Int))=>vc_point_check d) ⟨(.cons ok_point_Check .nil),XsOk.nil,ItsOk.nil,YlOk.nil,IysOk.nil⟩ (vq_point_check) fun d hp=>h d hp
theorem ok_point_check:Ok_point_check:=mk_point_check fun ds h=>by
 obtain ⟨h1,h2⟩:=h
 unfold vc_point_check; (try delta lI gD sT I64)
 (try simp only [decide_eq_true_eq,decide_eq_false_iff_not])
 refine ⟨(),0,(by and_intros <;> first | rfl | trivial | simp),?_⟩
 refine LoopP.count ds.length (fun k=>∀ i (hi:i < ds.length),i < k→pointErr ds[i].1 ds[i].2=0) (fun i _ hi=>by omega) fun k hk hJ q hq=>?_
 simp only [Int.toNat_natCast,InK_i64]
 refine ⟨fun hlt=>?_,fun hge=>?_⟩
 ·have hkd:k < ds.length:=by omega
  rw [getD_nat hkd]
  refine ⟨by omega,by omega,h2 _ (List.getElem_mem hkd),fun hx=>?_,fun hx=>⟨by omega,_,(by and_intros <;> first | rfl | trivial | simp),hq (by omega) fun i hi' hi=>?_⟩⟩
  ·have hx:pointErr ds[k].1 ds[k].2 ≠ 0:=by simpa using hx
   have:ds.find? (fun d=>decide (pointErr d.1 d.2 ≠ 0))=some ds[k]:=by
    rw [List.find?_eq_some_iff_getElem]
    refine ⟨by simpa using hx,k,hkd,rfl,fun j hj=>?_⟩
    simpa using hJ j (by omega) hj
   refine ⟨?_,trivial⟩
   unfold chkErr; rw [this]
  ·rcases Nat.lt_succ_iff_lt_or_eq.1 hi with hi | rfl
   ·exact hJ i hi' hi
   ·simpa using hx
 ·have hk:k=ds.length:=by omega
  subst hk
  have:ds.find? (fun d=>decide (pointErr d.1 d.2 ≠ 0))=none:=by
   rw [List.find?_eq_none]
   intro d hd
   obtain ⟨i,hi,rfl⟩:=List.getElem_of_mem hd
   simpa using hJ i hi hi
  refine ⟨?_,trivial⟩
  unfold chkErr; rw [this]
def al_point_Beside:AL ((Int × List Int) × Int × List Int):=(.cons (.agg (.cons (.k (.i .i64)) (.one (.k (.list (.i .i64)))))) (.one (.agg (.cons (.k (.i .i64)) (.one (.k (.list (.i .i64))))))))
def pre_point_Beside (d:(Int × List Int) × Int × List Int):Prop:=d.1.2.length ≤ 1000∧d.2.2.length ≤ 1000
def res_point_Beside (d:(Int × List Int) × Int × List Int):SV:=.tup [.agg [.val (.i .i64) (if sbErr d.1.1 d.1.2 d.2.1 d.2.2=0 then d.1.1 + d.2.1 else 0),.lst 0],.val (.i .i64) (sbErr d.1.1 d.1.2 d.2.1 d.2.2)]
def obs_point_Beside (d:(Int × List Int) × Int × List Int):List OB:=[.lst 3 (.i .i64) (sbR d.1.1 d.1.2 d.2.1 d.2.2) ((sbR d.1.1 d.1.2 d.2.1 d.2.2).isEmpty)]
def s_point_Beside:CSp:=mkSp al_point_Beside pre_point_Beside res_point_Beside obs_point_Beside
def vc_point_Beside (hd:Int) (rows:List Int) (hd1:Int) (rows1:List Int):Prop :=
 ([(hd,rows),(hd1,rows1)].length ≤ 1000∧∀ x ∈ [(hd,rows),(hd1,rows1)],x.2.length ≤ 1000000)∧(((chkErr [(hd,rows),(hd1,rows1)]) != (0:Int))=true →
  ((((0:Int)=(if sbErr hd rows hd1 rows1=0 then hd + hd1 else 0)∧True∧(([]:List SV)=[]))∧(chkErr [(hd,rows),(hd1,rows1)])=(sbErr hd rows hd1 rows1)∧(([]:List SV)=[]))∧(((sbR hd rows hd1 rows1)=[]∧(sbR hd rows hd1 rows1).isEmpty=true)∧True))) ∧
 (((chkErr [(hd,rows),(hd1,rows1)]) != (0:Int))=false →
  (((lI rows) != (lI rows1))=true →
   ((((0:Int)=(if sbErr hd rows hd1 rows1=0 then hd + hd1 else 0)∧True∧(([]:List SV)=[]))∧(4:Int)=(sbErr hd rows hd1 rows1)∧(([]:List SV)=[]))∧(((sbR hd rows hd1 rows1)=[]∧(sbR hd rows hd1 rows1).isEmpty=true)∧True))) ∧
  (((lI rows) != (lI rows1))=false →
   (I64 (hd + hd1))∧((decide ((hd + hd1) > (24:Int)))=true →
    ((((0:Int)=(if sbErr hd rows hd1 rows1=0 then hd + hd1 else 0)∧True∧(([]:List SV)=[]))∧(8:Int)=(sbErr hd rows hd1 rows1)∧(([]:List SV)=[]))∧(((sbR hd rows hd1 rows1)=[]∧(sbR hd rows hd1 rows1).isEmpty=true)∧True))) ∧
   ((decide ((hd + hd1) > (24:Int)))=false →
    (I64 (hd + hd1))∧∃ (e4:Unit) (d40:(List Int) × Int),((True∧True∧True∧True∧rows=rows∧(lI rows)=(lI rows)∧(0:Int)=d40.2∧True)∧((hd=hd∧rows=rows∧(([]:List SV)=[]))∧(hd1=hd1∧rows1=rows1∧(([]:List SV)=[]))∧((0:Int)=(0:Int)∧True∧(([]:List SV)=[]))∧((hd + hd1)=(hd + hd1)∧True∧(([]:List SV)=[]))∧(d40.1=[]∧(List.isEmpty d40.1)=true)∧True)) ∧
    LoopP (fun (d4:(List Int) × Int) (q4:((List Int) × Int)→Prop) =>
     ((decide (d4.2 < (lI rows)))=true →
      (0 ≤ d4.2)∧(d4.2 < (List.length rows))∧(0 ≤ d4.2)∧(d4.2 < (List.length rows1))∧(0 ≤ hd)∧(I64 (shlI .i64 (gD rows1 d4.2 0) hd))∧(((List.length d4.1) + (List.length [(vbits .or .i64 (gD rows d4.2 0) (shlI .i64 (gD rows1 d4.2 0) hd))])) * 8 ≤ 70368744177664)∧(I64 (d4.2 + (1:Int)))∧(∃ d5:(List Int) × Int,((True∧True∧True∧True∧rows=rows∧(lI rows)=(lI rows)∧(d4.2 + (1:Int))=d5.2∧True)∧((hd=hd∧rows=rows∧(([]:List SV)=[]))∧(hd1=hd1∧rows1=rows1∧(([]:List SV)=[]))∧((0:Int)=(0:Int)∧True∧(([]:List SV)=[]))∧((hd + hd1)=(hd + hd1)∧True∧(([]:List SV)=[]))∧((d4.1++[(vbits .or .i64 (gD rows d4.2 0) (shlI .i64 (gD rows1 d4.2 0) hd))])=d5.1∧false=(List.isEmpty d5.1))∧True))∧q4 d5)) ∧
     ((decide (d4.2 < (lI rows)))=false →
      ((((hd + hd1)=(if sbErr hd rows hd1 rows1=0 then hd + hd1 else 0)∧True∧(([]:List SV)=[]))∧(0:Int)=(sbErr hd rows hd1 rows1)∧(([]:List SV)=[]))∧((d4.1=(sbR hd rows hd1 rows1)∧(List.isEmpty d4.1)=(sbR hd rows hd1 rows1).isEmpty)∧True)))) d40)))
def cx_point_Beside:Cx:=⟨[(3,(.i .i64)),(36,(.pair (.i .i64) (.list (.i .i64))))],[(91,s_point_check)],67,[12],0,[],[],[],[],false,[],[],[]⟩
def lp_point_Beside (hd:Int) (rows:List Int) (hd1:Int) (rows1:List Int):List (Nat × LoopAnn):=[(1,⟨Unit,(List Int) × Int,[2,3,4,7,43,44,45],fun e x=>[.box 2 0,.box 3 0,.box 4 0,.box 7 0,.val (.list (.i .i64)) rows,.val (.i .i64) (((List.length rows):Nat):Int),.val (.i .i64) x.2],fun e x=>[(2,.slot 2,.cells [.val (.i .i64) hd,.val (.list (.i .i64)) rows] (some 36)),(3,.slot 3,.cells [.val (.i .i64) hd1,.val (.list (.i .i64)) rows1] (some 36)),(4,.slot 4,.cells [.val (.i .i64) (0:Int),.nilS] (some 36)),(7,.slot 7,.cells [.val (.i .i64) (hd + hd1),.lst 63] (some 36)),(63,.cell 7 1,.lst 3 (.i .i64) x.1 (List.isEmpty x.1))]⟩)]
set_option maxRecDepth 100000 in
theorem vq_point_Beside (d:(Int × List Int) × Int × List Int):gwp (cx_point_Beside) (lp_point_Beside d.1.1 d.1.2 d.2.1 d.2.2) c55 0 (gend [.cell 4 true 2,.tmp 5] (res_point_Beside d) (obs_point_Beside d)) (gstart 67 (AL.can al_point_Beside d))=vc_point_Beside d.1.1 d.1.2 d.2.1 d.2.2:=by kernel_rfl
abbrev Ok_point_Beside:Prop:=OkC Tryz.prog 55 s_point_Beside
theorem mk_point_Beside (h:∀ (hd:Int) (rows:List Int) (hd1:Int) (rows1:List Int),(rows.length ≤ 1000∧rows1.length ≤ 1000)→vc_point_Beside hd rows hd1 rows1):OkC Tryz.prog 55 s_point_Beside :=
 okC_vc fun55 mixed (C:=cx_point_Beside) (V:=fun (d:(Int × List Int) × Int × List Int)=>vc_point_Beside d.1.1 d.1.2 d.2.1 d.2.2) ⟨(.cons ok_point_check .nil),XsOk.nil,ItsOk.nil,YlOk.nil,IysOk.nil⟩ (vq_point_Beside) fun d hp=>h d.1.1 d.1.2 d.2.1 d.2.2 hp
theorem shl_bits {x n:Nat} (hx:x < 2 ^ 24) (hn:n ≤ 24):x <<< n < 9223372036854775808:=by
 rw [Nat.shiftLeft_eq]
 have h2:2 ^ n ≤ 2 ^ 24:=Nat.pow_le_pow_right (by omega) hn
 have:x * 2 ^ n ≤ 2 ^ 24 * 2 ^ 24:=Nat.mul_le_mul (by omega) h2
 omega
theorem ok_point_Beside:Ok_point_Beside:=mk_point_Beside fun hd rows hd1 rows1 h=>by
 obtain ⟨h1,h2⟩:=h
 unfold vc_point_Beside; (try delta lI gD sT I64)
 (try simp only [decide_eq_true_eq,decide_eq_false_iff_not])
 simp only [chkErr_two]
 refine ⟨⟨by simp,fun d hd=>?_⟩,fun he=>?_,fun he=>⟨fun hl=>?_,fun hl=>⟨?_,fun hg=>?_,fun hg=>⟨?_,?_⟩⟩⟩⟩
 ·rcases List.mem_cons.1 hd with rfl | hd
  ·dsimp only; omega
  ·rw [List.mem_singleton.1 hd]; dsimp only; omega
 ·have he:(if pointErr hd rows ≠ 0 then pointErr hd rows else pointErr hd1 rows1) ≠ 0:=by simpa using he
  have e:sbErr hd rows hd1 rows1=(if pointErr hd rows ≠ 0 then pointErr hd rows else pointErr hd1 rows1):=by
   unfold sbErr
   by_cases a1:pointErr hd rows=0
   ·have a2:pointErr hd1 rows1 ≠ 0:=by simpa [a1] using he
    simp [a1,a2]
   ·simp [a1]
  have e2:sbR hd rows hd1 rows1=[]:=by unfold sbR; rw [if_neg (by rw [e]; exact he)]
  rw [e2,e,if_neg he]
  exact (by and_intros <;> first | rfl | trivial | simp)
 all_goals
  have he:(if pointErr hd rows ≠ 0 then pointErr hd rows else pointErr hd1 rows1)=0:=by simpa using he
  have a1:pointErr hd rows=0:=by
   by_cases a1:pointErr hd rows=0
   ·exact a1
   ·simp [a1] at he
  have a2:pointErr hd1 rows1=0:=by simpa [a1] using he
  obtain ⟨p1,p2,p3,p4,p5⟩:=pointErr_zero a1
  obtain ⟨r1,r2,r3,r4,r5⟩:=pointErr_zero a2
 ·have hl:rows.length ≠ rows1.length:=by simp only [bne_iff_ne,ne_eq] at hl; omega
  have e:sbErr hd rows hd1 rows1=4:=by simp [sbErr,a1,a2,hl]
  have e2:sbR hd rows hd1 rows1=[]:=by simp [sbR,e]
  rw [e2,e]; exact (by and_intros <;> first | rfl | trivial | simp)
 ·rw [InK_i64]; omega
 ·have hl:rows.length=rows1.length:=by simp only [bne_eq_false_iff_eq] at hl; omega
  have hg:24 < hd + hd1:=by omega
  have e:sbErr hd rows hd1 rows1=8:=by simp [sbErr,a1,a2,hl,hg]
  have e2:sbR hd rows hd1 rows1=[]:=by simp [sbR,e]
  rw [e2,e]; exact (by and_intros <;> first | rfl | trivial | simp)
 ·rw [InK_i64]; omega
 ·have hl:rows.length=rows1.length:=by simp only [bne_eq_false_iff_eq] at hl; omega
  have hg:¬ 24 < hd + hd1:=by omega
  have e:sbErr hd rows hd1 rows1=0:=by simp [sbErr,a1,a2,hl,hg]
  have e2:sbR hd rows hd1 rows1=sbK hd rows rows1 rows.length:=by simp [sbR,e]
  rw [e2,e]
  refine ⟨(),([],0),(by and_intros <;> first | rfl | trivial | simp),?_⟩
  refine LoopP.count2 rows.length (fun k xs=>xs=sbK hd rows rows1 k) (by simp [sbK]) fun k xs hk hJ q hq=>?_
  have hxl:xs.length=k:=by rw [hJ]; simp [sbK]
  dsimp only
  simp only [Int.toNat_natCast,InK_i64,List.length_singleton]
  refine ⟨fun hlt=>?_,fun hge=>?_⟩
  ·have hlt:k < rows.length:=by omega
   have hlt1:k < rows1.length:=by omega
   have hx:=p5 _ (getD_mem hlt)
   have hy:=r5 _ (getD_mem hlt1)
   have hp1:(2:Int) ^ hd.toNat ≤ 16777216:=(pow_bound p1 p2).2
   have hp2:(2:Int) ^ hd1.toNat ≤ 16777216:=(pow_bound r1 r2).2
   have hsb:=sbK_succ hd rows rows1 k
   obtain ⟨x,ex⟩:=Int.eq_ofNat_of_zero_le hx.1
   obtain ⟨y,ey⟩:=Int.eq_ofNat_of_zero_le hy.1
   obtain ⟨m,em⟩:=Int.eq_ofNat_of_zero_le (show 0 ≤ hd by omega)
   rw [ex,ey] at hsb
   rw [ex] at hx
   rw [ey] at hy
   simp only [ex,ey,em,Int.toNat_natCast] at hsb ⊢
   have hs:=shl_nat (x:=y) (i:=m) (by omega)
   have hsl:=shl_bits (x:=y) (n:=m) (by omega) (by omega)
   obtain ⟨z,hz⟩:∃ z,z=y <<< m:=⟨_,rfl⟩
   rw [←hz] at hs hsl hsb
   rw [hs,vor_nat (by omega) hsl]
   refine ⟨by omega,by omega,by omega,by omega,by omega,by omega,by omega,by omega,(_,_),(by and_intros <;> first | rfl | trivial | simp),hq _ hlt ?_⟩
   rw [hJ,em]; exact hsb.symm
  ·have hk:k=rows.length:=by omega
   subst hk
   rw [hJ]; exact (by and_intros <;> first | rfl | trivial | simp)
def al_point_made:AL (Int × Int × ((Int × Int→Prop) × (Int × Int→Bool))):=(.cons (.k (.i .i64)) (.cons (.k (.i .i64)) (.one (.fn [(.i .i64),(.i .i64)] .bo))))
def pre_point_made (d:Int × Int × ((Int × Int→Prop) × (Int × Int→Bool))):Prop:=0 ≤ d.1∧d.1 ≤ 1000∧0 ≤ d.2.1∧d.2.1 ≤ 60∧∀ i j,0 ≤ i→i < d.1→0 ≤ j→j < d.2.1→d.2.2.1 (i,j)
def res_point_made (d:Int × Int × ((Int × Int→Prop) × (Int × Int→Bool))):SV:=.agg [.val (.i .i64) d.2.1,.lst 0]
def obs_point_made (d:Int × Int × ((Int × Int→Prop) × (Int × Int→Bool))):List OB:=[.lst 3 (.i .i64) (madeR d.1.toNat d.2.1.toNat d.2.2.2) false]
def s_point_made:CSp:=mkSp al_point_made pre_point_made res_point_made obs_point_made
def vc_point_made (pk:Int) (hk:Int) (p:(Int × Int→Prop) × (Int × Int→Bool)):Prop :=
 (0 ≤ pk)∧(pk ≤ pk)∧(pk * 8 ≤ 70368744177664)∧(pk ≤ 70368744177664)∧∃ (e3:Unit) (d30:(List Int) × Int),((hk=hk∧(SV.pf [(.i .i64),(.i .i64)] .bo p.1 p.2=SV.pf [(.i .i64),(.i .i64)] .bo p.1 p.2)∧True∧True∧pk=pk∧(0:Int)=d30.2∧True)∧(((0:Int)=(0:Int)∧True∧(([]:List SV)=[]))∧(hk=hk∧True∧(([]:List SV)=[]))∧((List.replicate (Int.toNat pk) (0:Int))=d30.1∧false=false)∧True)) ∧
 LoopP (fun (d3:(List Int) × Int) (q3:((List Int) × Int)→Prop) =>
  ((decide (d3.2 < pk))=true →
   ∃ (e6:Int × Int) (d60:(List Int) × Int),((hk=hk∧(SV.pf [(.i .i64),(.i .i64)] .bo p.1 p.2=SV.pf [(.i .i64),(.i .i64)] .bo p.1 p.2)∧True∧True∧d3.2=e6.1∧pk=pk∧d3.2=e6.2∧hk=hk∧(0:Int)=d60.2∧True)∧(((0:Int)=(0:Int)∧True∧(([]:List SV)=[]))∧(hk=hk∧True∧(([]:List SV)=[]))∧(d3.1=d60.1∧false=false)∧True)) ∧
   LoopP (fun (d6:(List Int) × Int) (q6:((List Int) × Int)→Prop) =>
    ((decide (d6.2 < hk))=true →
     (p.1 (e6.1,d6.2))∧((p.2 (e6.1,d6.2))=true →
      (0 ≤ e6.1)∧(e6.1 < (List.length d6.1))∧(0 ≤ d6.2)∧(I64 (shlI .i64 (1:Int) d6.2))∧(0 ≤ e6.1)∧(e6.1 < (List.length d6.1))∧(I64 (d6.2 + (1:Int)))∧(∃ d7:(List Int) × Int,((hk=hk∧(SV.pf [(.i .i64),(.i .i64)] .bo p.1 p.2=SV.pf [(.i .i64),(.i .i64)] .bo p.1 p.2)∧True∧True∧e6.1=e6.1∧pk=pk∧e6.2=e6.2∧hk=hk∧(d6.2 + (1:Int))=d7.2∧True)∧(((0:Int)=(0:Int)∧True∧(([]:List SV)=[]))∧(hk=hk∧True∧(([]:List SV)=[]))∧((sT d6.1 e6.1 (vbits .or .i64 (gD d6.1 e6.1 0) (shlI .i64 (1:Int) d6.2)))=d7.1∧false=false)∧True))∧q6 d7)) ∧
     ((p.2 (e6.1,d6.2))=false →
      (I64 (d6.2 + (1:Int)))∧(∃ d8:(List Int) × Int,((hk=hk∧(SV.pf [(.i .i64),(.i .i64)] .bo p.1 p.2=SV.pf [(.i .i64),(.i .i64)] .bo p.1 p.2)∧True∧True∧e6.1=e6.1∧pk=pk∧e6.2=e6.2∧hk=hk∧(d6.2 + (1:Int))=d8.2∧True)∧(((0:Int)=(0:Int)∧True∧(([]:List SV)=[]))∧(hk=hk∧True∧(([]:List SV)=[]))∧(d6.1=d8.1∧false=false)∧True))∧q6 d8))) ∧
    ((decide (d6.2 < hk))=false →
     (I64 (e6.2 + (1:Int)))∧(∃ d9:(List Int) × Int,((hk=hk∧(SV.pf [(.i .i64),(.i .i64)] .bo p.1 p.2=SV.pf [(.i .i64),(.i .i64)] .bo p.1 p.2)∧True∧True∧pk=pk∧(e6.2 + (1:Int))=d9.2∧True)∧(((0:Int)=(0:Int)∧True∧(([]:List SV)=[]))∧(hk=hk∧True∧(([]:List SV)=[]))∧(d6.1=d9.1∧false=false)∧True))∧q3 d9))) d60) ∧
  ((decide (d3.2 < pk))=false →
   ((hk=hk∧True∧(([]:List SV)=[]))∧((d3.1=(madeR pk.toNat hk.toNat p.2)∧false=false)∧True)))) d30
def cx_point_made:Cx:=⟨[(3,(.i .i64))],[],38,[],0,[],[],[],[],false,[],[],[]⟩
def lp_point_made (pk:Int) (hk:Int) (p:(Int × Int→Prop) × (Int × Int→Bool)):List (Nat × LoopAnn):=[(0,⟨Unit,(List Int) × Int,[1,2,6,7,14,15],fun e x=>[.val (.i .i64) hk,.pf [(.i .i64),(.i .i64)] .bo p.1 p.2,.box 6 0,.box 7 0,.val (.i .i64) pk,.val (.i .i64) x.2],fun e x=>[(6,.slot 6,.cells [.val (.i .i64) (0:Int),.nilS] (some 36)),(7,.slot 7,.cells [.val (.i .i64) hk,.lst 12] (some 36)),(12,.cell 7 1,.lst 3 (.i .i64) x.1 false)]⟩),
 (2,⟨Int × Int,(List Int) × Int,[1,2,6,7,8,14,15,18,19],fun e x=>[.val (.i .i64) hk,.pf [(.i .i64),(.i .i64)] .bo p.1 p.2,.box 6 0,.box 7 0,.val (.i .i64) e.1,.val (.i .i64) pk,.val (.i .i64) e.2,.val (.i .i64) hk,.val (.i .i64) x.2],fun e x=>[(6,.slot 6,.cells [.val (.i .i64) (0:Int),.nilS] (some 36)),(7,.slot 7,.cells [.val (.i .i64) hk,.lst 12] (some 36)),(12,.cell 7 1,.lst 3 (.i .i64) x.1 false)]⟩)]
set_option maxRecDepth 100000 in
theorem vq_point_made (d:Int × Int × ((Int × Int→Prop) × (Int × Int→Bool))):gwp (cx_point_made) (lp_point_made d.1 d.2.1 d.2.2) c92 0 (gend [.cell 6 true 2] (res_point_made d) (obs_point_made d)) (gstart 38 (AL.can al_point_made d))=vc_point_made d.1 d.2.1 d.2.2:=by kernel_rfl
abbrev Ok_point_made:Prop:=OkC Tryz.prog 92 s_point_made
theorem mk_point_made (h:∀ (pk:Int) (hk:Int) (p:(Int × Int→Prop) × (Int × Int→Bool)),(0 ≤ pk∧pk ≤ 1000∧0 ≤ hk∧hk ≤ 60∧∀ i j,0 ≤ i→i < pk→0 ≤ j→j < hk→p.1 (i,j))→vc_point_made pk hk p):OkC Tryz.prog 92 s_point_made :=
 okC_vc fun92 mixed (C:=cx_point_made) (V:=fun (d:Int × Int × ((Int × Int→Prop) × (Int × Int→Bool)))=>vc_point_made d.1 d.2.1 d.2.2) ⟨.nil,XsOk.nil,ItsOk.nil,YlOk.nil,IysOk.nil⟩ (vq_point_made) fun d hp=>h d.1 d.2.1 d.2.2 hp
theorem ok_point_made:Ok_point_made:=mk_point_made fun pk hk p h=>by
 obtain ⟨h1,h2,h3,h4,hp⟩:=h
 obtain ⟨n,rfl⟩:=Int.eq_ofNat_of_zero_le h1
 obtain ⟨m,rfl⟩:=Int.eq_ofNat_of_zero_le h3
 unfold vc_point_made; (try delta lI gD sT I64)
 (try simp only [decide_eq_true_eq,decide_eq_false_iff_not])
 simp only [Int.toNat_natCast]
 have hbt:∀ (j:Nat) (f:Nat→Bool),j ≤ m→madeV j f < 2 ^ 60:=fun j f hj=>Nat.lt_of_lt_of_le (madeV_lt j f) (Nat.pow_le_pow_right (by omega) (by omega))
 refine ⟨by omega,by omega,by omega,by omega,(),(List.replicate n 0,0),(by and_intros <;> first | rfl | trivial | simp),?_⟩
 refine LoopP.count2 n (fun i xs=>xs.length=n∧∀ k,k < n→xs.getD k 0=if k < i then ((madeV m (fun j=>p.2 ((k:Int),(j:Int))):Nat):Int) else 0) ⟨by simp,fun k hk=>by rw [getD_nat (by simpa using hk)]; simp⟩ fun i xs hi hJ q hq=>?_
 obtain ⟨hxl,hJ⟩:=hJ
 dsimp only
 refine ⟨fun hlt=>⟨((i:Int),(i:Int)),(xs,0),(by and_intros <;> first | rfl | trivial | simp),?_⟩,fun hge=>?_⟩
 ·have hlt:i < n:=by omega
  dsimp only
  refine LoopP.count2 m (fun j ys=>ys.length=n∧∀ k,k < n→ys.getD k 0=if k < i then ((madeV m (fun j=>p.2 ((k:Int),(j:Int))):Nat):Int) else if k=i then ((madeV j (fun j=>p.2 ((k:Int),(j:Int))):Nat):Int) else 0) ⟨hxl,fun k hk=>?_⟩ fun j ys hj hI q2 hq2=>?_
  ·rw [hJ k hk]
   split
   ·rfl
   ·split
    ·simp [madeV,bitsV]
    ·rfl
  obtain ⟨hyl,hI⟩:=hI
  dsimp only
  simp only [Int.toNat_natCast,InK_i64]
  refine ⟨fun hlt2=>?_,fun hge=>?_⟩
  ·have hlt2:j < m:=by omega
   have hsuc:=madeV_succ j (fun j=>p.2 ((i:Int),(j:Int)))
   have hb1:=hbt j (fun j=>p.2 ((i:Int),(j:Int))) (by omega)
   have hyi:=hI i hlt
   rw [if_neg (by omega),if_pos rfl] at hyi
   refine ⟨hp _ _ (by omega) (by omega) (by omega) (by omega),fun ht=>?_,fun hf=>?_⟩
   ·have h1j:(1:Nat) <<< j < 2 ^ 60:=by rw [Nat.one_shiftLeft]; exact Nat.pow_lt_pow_right (by omega) (by omega)
    have e1:shlI .i64 1 ((j:Nat):Int)=((1 <<< j:Nat):Int):=shl_nat (x:=1) (by omega)
    obtain ⟨z,hz⟩:∃ z,z=1 <<< j:=⟨_,rfl⟩
    rw [←hz] at e1 h1j hsuc
    simp only [hyi,e1,vor_nat (show madeV j (fun j=>p.2 ((i:Int),(j:Int))) < 9223372036854775808 by omega) (show z < 9223372036854775808 by omega)]
    rw [ht,if_pos rfl] at hsuc
    simp only [←hsuc]
    clear e1
    refine ⟨by omega,by omega,by omega,by omega,by omega,by omega,by omega,(_,_),(by and_intros <;> first | rfl | trivial | simp),hq2 _ hlt2 ⟨by rw [List.length_set]; exact hyl,fun k hk=>?_⟩⟩
    rw [List.getD_eq_getElem?_getD,List.getElem?_set]
    by_cases hki:i=k
    ·subst hki
     rw [if_pos rfl,if_pos (by omega),if_neg (by omega),if_pos rfl]; rfl
    ·rw [if_neg hki,←List.getD_eq_getElem?_getD,hI k hk,if_neg (Ne.symm hki)]
     by_cases hk2:k < i
     ·rw [if_pos hk2,if_pos hk2]
     ·rw [if_neg hk2,if_neg hk2,if_neg (Ne.symm hki)]
   ·rw [hf,if_neg (by simp),Nat.or_zero] at hsuc
    refine ⟨by omega,(_,_),(by and_intros <;> first | rfl | trivial | simp),hq2 _ hlt2 ⟨hyl,fun k hk=>?_⟩⟩
    rw [hI k hk]
    by_cases hki:k=i
    ·subst hki
     rw [if_neg (by omega),if_pos rfl,if_neg (by omega),if_pos rfl,hsuc]
    ·split
     ·rfl
     ·simp only []
  ·have hjm:j=m:=by omega
   subst hjm
   refine ⟨by omega,(_,_),(by and_intros <;> first | rfl | trivial | simp),hq _ hlt ⟨hyl,fun k hk=>?_⟩⟩
   rw [hI k hk]
   by_cases hki:k=i
   ·subst hki
    rw [if_neg (by omega),if_pos rfl,if_pos (by omega)]
   ·by_cases hk2:k < i
    ·rw [if_pos hk2,if_pos (by omega)]
    ·rw [if_neg hk2,if_neg hki,if_neg (by omega)]
 ·have hin:i=n:=by omega
  subst hin
  have:xs=madeR i m p.2:=by
   refine List.ext_getElem (by rw [madeR_length]; exact hxl) fun k a b=>?_
   have h5:=hJ k (by omega)
   rw [getD_nat a,if_pos (by omega)] at h5
   have h6:=madeR_getD (hk:=m) (p:=p.2) (show k < i by omega)
   rw [getD_nat b] at h6
   rw [h5,h6]
  rw [this]; exact (by and_intros <;> first | rfl | trivial | simp)
def al_point_paper_at:AL ((Int × List Int) × Int × Int):=(.cons (.agg (.cons (.k (.i .i64)) (.one (.k (.list (.i .i64)))))) (.cons (.k (.i .i64)) (.one (.k (.i .i64)))))
def pre_point_paper_at (d:(Int × List Int) × Int × Int):Prop:=0 ≤ d.2.1∧0 ≤ d.2.2∧d.1.2 ≠ []∧d.1.2.length ≤ 1000∧d.2.1 ≤ 1000000∧d.2.2 ≤ 1000000∧1 ≤ d.1.1∧d.1.1 ≤ 24∧∀ x ∈ d.1.2,0 ≤ x∧x < 9223372036854775808
def res_point_paper_at (d:(Int × List Int) × Int × Int):SV:=.val .bo ((d.1.2.getD (Int.tmod d.2.1 d.1.2.length).toNat 0).toNat.testBit (Int.tmod d.2.2 d.1.1).toNat)
def obs_point_paper_at (d:(Int × List Int) × Int × Int):List OB:=[]
def s_point_paper_at:CSp:=mkSp al_point_paper_at pre_point_paper_at res_point_paper_at obs_point_paper_at
def vc_point_paper_at (hd:Int) (rows:List Int) (i:Int) (j:Int):Prop :=
 ((lI rows) ≠ 0)∧(0 ≤ (Int.tmod i (lI rows)))∧((Int.tmod i (lI rows)) < (List.length rows))∧(hd ≠ 0)∧(0 ≤ (Int.tmod j hd))∧(((vbits .and .i64 (shrI .i64 (gD rows (Int.tmod i (lI rows)) 0) (Int.tmod j hd)) (1:Int)) == (1:Int))=((rows.getD (Int.tmod i rows.length).toNat 0).toNat.testBit (Int.tmod j hd).toNat)∧(True))
def cx_point_paper_at:Cx:=⟨[],[],26,[],0,[],[],[],[],false,[],[],[]⟩
def lp_point_paper_at (hd:Int) (rows:List Int) (i:Int) (j:Int):List (Nat × LoopAnn):=[]
set_option maxRecDepth 100000 in
theorem vq_point_paper_at (d:(Int × List Int) × Int × Int):gwp (cx_point_paper_at) (lp_point_paper_at d.1.1 d.1.2 d.2.1 d.2.2) c94 0 (gend [.tmp 6] (res_point_paper_at d) (obs_point_paper_at d)) (gstart 26 (AL.can al_point_paper_at d))=vc_point_paper_at d.1.1 d.1.2 d.2.1 d.2.2:=by kernel_rfl
abbrev Ok_point_paper_at:Prop:=OkC Tryz.prog 94 s_point_paper_at
theorem mk_point_paper_at (h:∀ (hd:Int) (rows:List Int) (i:Int) (j:Int),(0 ≤ i∧0 ≤ j∧rows ≠ []∧rows.length ≤ 1000∧i ≤ 1000000∧j ≤ 1000000∧1 ≤ hd∧hd ≤ 24∧∀ x ∈ rows,0 ≤ x∧x < 9223372036854775808)→vc_point_paper_at hd rows i j):OkC Tryz.prog 94 s_point_paper_at :=
 okC_vc fun94 mixed (C:=cx_point_paper_at) (V:=fun (d:(Int × List Int) × Int × Int)=>vc_point_paper_at d.1.1 d.1.2 d.2.1 d.2.2) ⟨.nil,XsOk.nil,ItsOk.nil,YlOk.nil,IysOk.nil⟩ (vq_point_paper_at) fun d hp=>h d.1.1 d.1.2 d.2.1 d.2.2 hp
theorem ok_point_paper_at:Ok_point_paper_at:=mk_point_paper_at fun hd rows i j h=>by
 obtain ⟨h1,h2,h3,h4,h5,h6,h7,h8,h9⟩:=h
 unfold vc_point_paper_at; (try delta lI gD sT I64)
 obtain ⟨x,rfl⟩:=Int.eq_ofNat_of_zero_le h1
 obtain ⟨y,rfl⟩:=Int.eq_ofNat_of_zero_le h2
 obtain ⟨d,rfl⟩:=Int.eq_ofNat_of_zero_le (show 0 ≤ hd by omega)
 have hl:0 < rows.length:=List.length_pos_iff.2 h3
 have hm:x % rows.length < rows.length:=Nat.mod_lt _ hl
 have hm2:y % d < d:=Nat.mod_lt _ (by omega)
 have hx:=h9 _ (getD_mem hm)
 obtain ⟨r,er⟩:=Int.eq_ofNat_of_zero_le hx.1
 simp only [tmodN,Int.toNat_natCast,er]
 rw [er] at hx
 refine ⟨by omega,by omega,by omega,by omega,by omega,?_,trivial⟩
 exact shr_bit (by omega) (by omega)
def al_point_Reflect_1:AL (Int × Int × (Int × List Int) × Int):=(.cons (.k (.i .i64)) (.cons (.k (.i .i64)) (.cons (.ptr (.cons (.k (.i .i64)) (.one (.k (.list (.i .i64)))))) (.one (.ptr (.one (.k (.i .i64))))))))
def pre_point_Reflect_1 (d:Int × Int × (Int × List Int) × Int):Prop:=0 ≤ d.1∧0 ≤ d.2.1∧d.2.2.1.2 ≠ []∧d.2.2.1.2.length ≤ 1000∧d.1 ≤ 1000000∧d.2.1 ≤ 1000000∧0 ≤ d.2.2.2∧d.2.2.2 ≤ 1000000∧1 ≤ d.2.2.1.1∧d.2.2.1.1 ≤ 24∧∀ x ∈ d.2.2.1.2,0 ≤ x∧x < 9223372036854775808
def res_point_Reflect_1 (d:Int × Int × (Int × List Int) × Int):SV:=.val .bo (rfP d.2.2.1.1 d.2.2.1.2 d.2.2.2 (d.1,d.2.1))
def obs_point_Reflect_1 (d:Int × Int × (Int × List Int) × Int):List OB:=[]
def s_point_Reflect_1:CSp:=mkSp al_point_Reflect_1 pre_point_Reflect_1 res_point_Reflect_1 obs_point_Reflect_1
def vc_point_Reflect_1 (i:Int) (j:Int) (hd:Int) (rows:List Int) (n:Int):Prop :=
 (I64 (n - j))∧(0 ≤ i∧0 ≤ (gmin j (gmax (0:Int) (n - j)))∧rows ≠ []∧rows.length ≤ 1000∧i ≤ 1000000∧(gmin j (gmax (0:Int) (n - j))) ≤ 1000000∧1 ≤ hd∧hd ≤ 24∧∀ x ∈ rows,0 ≤ x∧x < 9223372036854775808)∧(((rows.getD (Int.tmod i rows.length).toNat 0).toNat.testBit (Int.tmod (gmin j (gmax (0:Int) (n - j))) hd).toNat)=(rfP hd rows n (i,j))∧(True))
def cx_point_Reflect_1:Cx:=⟨[],[(94,s_point_paper_at)],17,[],0,[],[],[],[],false,[],[],[]⟩
def lp_point_Reflect_1 (i:Int) (j:Int) (hd:Int) (rows:List Int) (n:Int):List (Nat × LoopAnn):=[]
set_option maxRecDepth 100000 in
theorem vq_point_Reflect_1 (d:Int × Int × (Int × List Int) × Int):gwp (cx_point_Reflect_1) (lp_point_Reflect_1 d.1 d.2.1 d.2.2.1.1 d.2.2.1.2 d.2.2.2) c93 0 (gend [.tmp 6] (res_point_Reflect_1 d) (obs_point_Reflect_1 d)) (gstart 17 (AL.can al_point_Reflect_1 d))=vc_point_Reflect_1 d.1 d.2.1 d.2.2.1.1 d.2.2.1.2 d.2.2.2:=by kernel_rfl
abbrev Ok_point_Reflect_1:Prop:=OkC Tryz.prog 93 s_point_Reflect_1
theorem mk_point_Reflect_1 (h:∀ (i:Int) (j:Int) (hd:Int) (rows:List Int) (n:Int),(0 ≤ i∧0 ≤ j∧rows ≠ []∧rows.length ≤ 1000∧i ≤ 1000000∧j ≤ 1000000∧0 ≤ n∧n ≤ 1000000∧1 ≤ hd∧hd ≤ 24∧∀ x ∈ rows,0 ≤ x∧x < 9223372036854775808)→vc_point_Reflect_1 i j hd rows n):OkC Tryz.prog 93 s_point_Reflect_1 :=
 okC_vc fun93 mixed (C:=cx_point_Reflect_1) (V:=fun (d:Int × Int × (Int × List Int) × Int)=>vc_point_Reflect_1 d.1 d.2.1 d.2.2.1.1 d.2.2.1.2 d.2.2.2) ⟨(.cons ok_point_paper_at .nil),XsOk.nil,ItsOk.nil,YlOk.nil,IysOk.nil⟩ (vq_point_Reflect_1) fun d hp=>h d.1 d.2.1 d.2.2.1.1 d.2.2.1.2 d.2.2.2 hp
theorem ok_point_Reflect_1:Ok_point_Reflect_1:=mk_point_Reflect_1 fun i j hd rows n h=>by
 obtain ⟨h1,h2,h3,h4,h5,h6,h7,h8,h9⟩:=h
 unfold vc_point_Reflect_1; (try delta lI gD sT I64)
 have hg:0 ≤ gmin j (gmax 0 (n - j))∧gmin j (gmax 0 (n - j)) ≤ 1000000:=by
  unfold gmin gmax; split <;> split <;> omega
 exact ⟨by rw [InK_i64]; omega,⟨h1,hg.1,h3,h4,h5,hg.2,h9.1,h9.2.1,h9.2.2⟩,rfl,trivial⟩
def al_point_Reflect:AL (Int × List Int):=(.one (.agg (.cons (.k (.i .i64)) (.one (.k (.list (.i .i64)))))))
def pre_point_Reflect (d:Int × List Int):Prop:=d.2.length ≤ 1000
def res_point_Reflect (d:Int × List Int):SV:=.tup [.agg [.val (.i .i64) (if rfErr d.1 d.2=0 then rfN d.1 else 0),.lst 0],.val (.i .i64) (rfErr d.1 d.2)]
def obs_point_Reflect (d:Int × List Int):List OB:=[.lst 3 (.i .i64) (rfR d.1 d.2) ((rfR d.1 d.2).isEmpty)]
def s_point_Reflect:CSp:=mkSp al_point_Reflect pre_point_Reflect res_point_Reflect obs_point_Reflect
def vc_point_Reflect (hd:Int) (rows:List Int):Prop :=
 (rows.length ≤ 1000000)∧(((pointErr hd rows) != (0:Int))=true →
  ((((0:Int)=(if rfErr hd rows=0 then rfN hd else 0)∧True∧(([]:List SV)=[]))∧(pointErr hd rows)=(rfErr hd rows)∧(([]:List SV)=[]))∧(((rfR hd rows)=[]∧(rfR hd rows).isEmpty=true)∧True))) ∧
 (((pointErr hd rows) != (0:Int))=false →
  (I64 (hd - (2:Int)))∧(I64 (hd + (gmax (0:Int) (hd - (2:Int)))))∧((decide ((hd + (gmax (0:Int) (hd - (2:Int)))) > (24:Int)))=true →
   ((((0:Int)=(if rfErr hd rows=0 then rfN hd else 0)∧True∧(([]:List SV)=[]))∧(8:Int)=(rfErr hd rows)∧(([]:List SV)=[]))∧(((rfR hd rows)=[]∧(rfR hd rows).isEmpty=true)∧True))) ∧
  ((decide ((hd + (gmax (0:Int) (hd - (2:Int)))) > (24:Int)))=false →
   (0 ≤ (lI rows)∧(lI rows) ≤ 1000∧0 ≤ (hd + (gmax (0:Int) (hd - (2:Int))))∧(hd + (gmax (0:Int) (hd - (2:Int)))) ≤ 60∧∀ i j,0 ≤ i→i < (lI rows)→0 ≤ j→j < (hd + (gmax (0:Int) (hd - (2:Int))))→(fun (x1:Int × Int)=>0 ≤ x1.1∧0 ≤ x1.2∧rows ≠ []∧rows.length ≤ 1000∧x1.1 ≤ 1000000∧x1.2 ≤ 1000000∧0 ≤ (hd + (gmax (0:Int) (hd - (2:Int))))∧(hd + (gmax (0:Int) (hd - (2:Int)))) ≤ 1000000∧1 ≤ hd∧hd ≤ 24∧∀ x ∈ rows,0 ≤ x∧x < 9223372036854775808) (i,j))∧((((hd + (gmax (0:Int) (hd - (2:Int))))=(if rfErr hd rows=0 then rfN hd else 0)∧True∧(([]:List SV)=[]))∧(0:Int)=(rfErr hd rows)∧(([]:List SV)=[]))∧(((madeR (lI rows).toNat (hd + (gmax (0:Int) (hd - (2:Int)))).toNat (fun (x1:Int × Int)=>(rfP hd rows (hd + (gmax (0:Int) (hd - (2:Int)))) (x1.1,x1.2))))=(rfR hd rows)∧false=(rfR hd rows).isEmpty)∧True))))
def cx_point_Reflect:Cx:=⟨[],[(71,s_point_Check),(92,s_point_made),(93,s_point_Reflect_1)],28,[],0,[],[],[],[],false,[],[],[]⟩
def lp_point_Reflect (hd:Int) (rows:List Int):List (Nat × LoopAnn):=[]
set_option maxRecDepth 100000 in
theorem vq_point_Reflect (d:Int × List Int):gwp (cx_point_Reflect) (lp_point_Reflect d.1 d.2) c56 0 (gend [.cell 2 true 2,.tmp 3] (res_point_Reflect d) (obs_point_Reflect d)) (gstart 28 (AL.can al_point_Reflect d))=vc_point_Reflect d.1 d.2:=by kernel_rfl
abbrev Ok_point_Reflect:Prop:=OkC Tryz.prog 56 s_point_Reflect
theorem mk_point_Reflect (h:∀ (hd:Int) (rows:List Int),(rows.length ≤ 1000)→vc_point_Reflect hd rows):OkC Tryz.prog 56 s_point_Reflect :=
 okC_vc fun56 mixed (C:=cx_point_Reflect) (V:=fun (d:Int × List Int)=>vc_point_Reflect d.1 d.2) ⟨(.cons ok_point_Check (.cons ok_point_made (.cons ok_point_Reflect_1 .nil))),XsOk.nil,ItsOk.nil,YlOk.nil,IysOk.nil⟩ (vq_point_Reflect) fun d hp=>h d.1 d.2 hp
theorem ok_point_Reflect:Ok_point_Reflect:=mk_point_Reflect fun hd rows h=>by
 unfold vc_point_Reflect; (try delta lI gD sT I64)
 (try simp only [decide_eq_true_eq,decide_eq_false_iff_not])
 have eN:hd + gmax 0 (hd - 2)=rfN hd:=rfl
 simp only [eN]
 refine ⟨by omega,fun he=>?_,fun he=>?_⟩
 ·have he:pointErr hd rows ≠ 0:=by simpa using he
  have e:rfErr hd rows=pointErr hd rows:=by simp [rfErr,he]
  have e2:rfR hd rows=[]:=by simp [rfR,e,he]
  rw [e2,e,if_neg he]; exact (by and_intros <;> first | rfl | trivial | simp)
 have he:pointErr hd rows=0:=by simpa using he
 obtain ⟨p1,p2,p3,p4,p5⟩:=pointErr_zero he
 have hN:hd ≤ rfN hd∧rfN hd ≤ 48:=by unfold rfN gmax; split <;> omega
 have hp2:(2:Int) ^ hd.toNat ≤ 16777216:=(pow_bound p1 p2).2
 refine ⟨by rw [InK_i64]; omega,by rw [InK_i64]; omega,fun hg=>?_,fun hg=>?_⟩
 ·have hg:24 < rfN hd:=by omega
  have e:rfErr hd rows=8:=by simp [rfErr,he,hg]
  have e2:rfR hd rows=[]:=by simp [rfR,e]
  rw [e2,e]; exact (by and_intros <;> first | rfl | trivial | simp)
 ·have hg:¬ 24 < rfN hd:=by omega
  have e:rfErr hd rows=0:=by simp [rfErr,he,hg]
  have e2:rfR hd rows=madeR rows.length (rfN hd).toNat (rfP hd rows (rfN hd)):=by simp [rfR,e]
  have hlen:rows ≠ []:=fun e=>p4 (by rw [e]; rfl)
  rw [e2,e]
  refine ⟨⟨by omega,by omega,by omega,by omega,fun i j a1 a2 a3 a4=>?_⟩,?_⟩
  ·exact ⟨a1,a3,hlen,by omega,by omega,by omega,by omega,by omega,p1,p2,fun x hx=>by have:=p5 x hx; omega⟩
  ·have:(madeR rows.length (rfN hd).toNat (rfP hd rows (rfN hd))).isEmpty=false:=by
    cases hm:madeR rows.length (rfN hd).toNat (rfP hd rows (rfN hd)) with
    | nil=>have:=madeR_length rows.length (rfN hd).toNat (rfP hd rows (rfN hd)); rw [hm] at this; simp at this; omega
    | cons a l=>rfl
   simp [this]
def al_law03_shows:AL (List (List UInt8) × Int × List Int):=(.cons (.k (.list .st)) (.one (.agg (.cons (.k (.i .i64)) (.one (.k (.list (.i .i64))))))))
def pre_law03_shows (d:List (List UInt8) × Int × List Int):Prop:=d.1.length ≤ 1000∧d.2.2.length ≤ 1000∧0 ≤ d.2.1∧d.2.1 ≤ 60∧∀ x ∈ d.2.2,0 ≤ x∧x < 9223372036854775808
def res_law03_shows (d:List (List UInt8) × Int × List Int):SV:=.val .bo (showB d.1 d.2.1 d.2.2)
def obs_law03_shows (d:List (List UInt8) × Int × List Int):List OB:=[]
def s_law03_shows:CSp:=mkSp al_law03_shows pre_law03_shows res_law03_shows obs_law03_shows
def vc_law03_shows (c:List (List UInt8)) (hd:Int) (rows:List Int):Prop :=
 (c.length ≤ 1000)∧((!(rightB c (lI rows) hd))=true →
  (false=(showB c hd rows)∧(True))) ∧
 ((!(rightB c (lI rows) hd))=false →
  ∃ (e3:Unit) (d30:Int),((c=c∧True∧(0:Int)=d30∧True)∧((hd=hd∧rows=rows∧(([]:List SV)=[]))∧True)) ∧
  LoopP (fun (d3:Int) (q3:(Int)→Prop) =>
   ((decide (d3 < (lI c)))=true →
    ∃ (e6:Int) (d60:Int),((c=c∧True∧d3=e6∧(0:Int)=d60∧True)∧((hd=hd∧rows=rows∧(([]:List SV)=[]))∧True)) ∧
    LoopP (fun (d6:Int) (q6:(Int)→Prop) =>
     ((decide (d6 < hd))=true →
      (0 ≤ e6)∧(e6 < (List.length c))∧(0 ≤ d6)∧(d6 < (List.length (gD c e6 [])))∧(0 ≤ e6)∧(e6 < (List.length rows))∧(InK .u64 d6)∧(0 ≤ d6)∧((!((((UInt8.toNat (gD (gD c e6 []) d6 0):Nat):Int) == (120:Int)) == ((vbits .and .i64 (shrI .i64 (gD rows e6 0) d6) (1:Int)) == (1:Int))))=true →
       (false=(showB c hd rows)∧(True))) ∧
      ((!((((UInt8.toNat (gD (gD c e6 []) d6 0):Nat):Int) == (120:Int)) == ((vbits .and .i64 (shrI .i64 (gD rows e6 0) d6) (1:Int)) == (1:Int))))=false →
       (I64 (d6 + (1:Int)))∧(∃ d7:Int,((c=c∧True∧e6=e6∧(d6 + (1:Int))=d7∧True)∧((hd=hd∧rows=rows∧(([]:List SV)=[]))∧True))∧q6 d7))) ∧
     ((decide (d6 < hd))=false →
      (I64 (e6 + (1:Int)))∧(∃ d8:Int,((c=c∧True∧(e6 + (1:Int))=d8∧True)∧((hd=hd∧rows=rows∧(([]:List SV)=[]))∧True))∧q3 d8))) d60) ∧
   ((decide (d3 < (lI c)))=false →
    (true=(showB c hd rows)∧(True)))) d30)
def cx_law03_shows:Cx:=⟨[],[(50,s_law03_right)],45,[],0,[],[],[],[],false,[],[],[]⟩
def lp_law03_shows (c:List (List UInt8)) (hd:Int) (rows:List Int):List (Nat × LoopAnn):=[(0,⟨Unit,Int,[0,3,5],fun e x=>[.val (.list .st) c,.box 3 0,.val (.i .i64) x],fun e x=>[(3,.slot 3,.cells [.val (.i .i64) hd,.val (.list (.i .i64)) rows] (some 36))]⟩),
 (2,⟨Int,Int,[0,3,5,6],fun e x=>[.val (.list .st) c,.box 3 0,.val (.i .i64) e,.val (.i .i64) x],fun e x=>[(3,.slot 3,.cells [.val (.i .i64) hd,.val (.list (.i .i64)) rows] (some 36))]⟩)]
set_option maxRecDepth 100000 in
theorem vq_law03_shows (d:List (List UInt8) × Int × List Int):gwp (cx_law03_shows) (lp_law03_shows d.1 d.2.1 d.2.2) c57 0 (gend [.tmp 4] (res_law03_shows d) (obs_law03_shows d)) (gstart 45 (AL.can al_law03_shows d))=vc_law03_shows d.1 d.2.1 d.2.2:=by kernel_rfl
abbrev Ok_law03_shows:Prop:=OkC Tryz.prog 57 s_law03_shows
theorem mk_law03_shows (h:∀ (c:List (List UInt8)) (hd:Int) (rows:List Int),(c.length ≤ 1000∧rows.length ≤ 1000∧0 ≤ hd∧hd ≤ 60∧∀ x ∈ rows,0 ≤ x∧x < 9223372036854775808)→vc_law03_shows c hd rows):OkC Tryz.prog 57 s_law03_shows :=
 okC_vc fun57 mixed (C:=cx_law03_shows) (V:=fun (d:List (List UInt8) × Int × List Int)=>vc_law03_shows d.1 d.2.1 d.2.2) ⟨(.cons ok_law03_right .nil),XsOk.nil,ItsOk.nil,YlOk.nil,IysOk.nil⟩ (vq_law03_shows) fun d hp=>h d.1 d.2.1 d.2.2 hp
theorem ok_law03_shows:Ok_law03_shows:=mk_law03_shows fun c hd rows h=>by
 obtain ⟨h1,h2,h3,h4,h5⟩:=h
 unfold vc_law03_shows; (try delta lI gD sT I64)
 (try simp only [decide_eq_true_eq,decide_eq_false_iff_not])
 simp only [u120]
 refine ⟨by omega,fun hr=>?_,fun hr=>⟨(),0,(by and_intros <;> first | rfl | trivial | simp),?_⟩⟩
 ·have hr:rightB c rows.length hd=false:=by simpa using hr
  simp [showB,hr]
 have hr:rightB c rows.length hd=true:=by simpa using hr
 obtain ⟨g1,g2⟩:=rightB_iff.1 hr
 refine LoopP.count c.length (fun i=>∀ k,k < i→∀ w,w < hd.toNat→((c.getD k []).getD w 0 == 120)=(rows.getD k 0).toNat.testBit w) (fun k hk=>by omega) fun i hi hJ q hq=>?_
 refine ⟨fun hlt=>⟨(i:Int),0,(by and_intros <;> first | rfl | trivial | simp),?_⟩,fun hge=>?_⟩
 ·have hlt:i < c.length:=by omega
  have hli:((c.getD i []).length:Int)=hd:=by rw [getD_nat hlt]; exact g1 _ (List.getElem_mem hlt)
  have hir:i < rows.length:=by omega
  have hx:=h5 _ (getD_mem hir)
  obtain ⟨r,er⟩:=Int.eq_ofNat_of_zero_le hx.1
  refine LoopP.count hd.toNat (fun j=>∀ w,w < j→((c.getD i []).getD w 0 == 120)=(rows.getD i 0).toNat.testBit w) (fun w hw=>by omega) fun j hj hI q2 hq2=>?_
  simp only [Int.toNat_natCast,InK_i64,InK_u64,er]
  rw [er] at hx
  rw [er,Int.toNat_natCast] at hI
  refine ⟨fun hlt2=>?_,fun hge2=>?_⟩
  ·have hsb:=shr_bit (x:=r) (i:=j) (by omega) (by omega)
   rw [hsb]
   refine ⟨by omega,by omega,by omega,by omega,by omega,by omega,by omega,by omega,fun hne=>?_,fun he=>⟨by omega,_,(by and_intros <;> first | rfl | trivial | simp),hq2 (by omega) fun w hw=>?_⟩⟩
   ·refine ⟨Eq.symm ?_,trivial⟩
    rw [Bool.eq_false_iff]
    intro hs
    have:=(showB_iff.1 hs).2 i hlt j (by omega)
    rw [er,Int.toNat_natCast] at this
    rw [this] at hne
    simp at hne
   ·rw [er,Int.toNat_natCast]
    rcases Nat.lt_succ_iff_lt_or_eq.1 hw with hw | rfl
    ·exact hI w hw
    ·simpa using he
  ·have hj2:j=hd.toNat:=by omega
   subst hj2
   refine ⟨by omega,_,(by and_intros <;> first | rfl | trivial | simp),hq hlt fun k hk=>?_⟩
   rcases Nat.lt_succ_iff_lt_or_eq.1 hk with hk | rfl
   ·exact hJ k hk
   ·rw [er,Int.toNat_natCast]; exact hI
 ·have hi:i=c.length:=by omega
  subst hi
  refine ⟨Eq.symm ?_,trivial⟩
  exact showB_iff.2 ⟨hr,hJ⟩
end Go.Proofs.Tryz
set_option linter.unusedVariables false
namespace Go.Proofs.Tryz
open Go Go.V Go.Proofs
theorem weaveC_len {hk:Int} {lw:List Int} {hd:Int} {rows:List Int}:(weaveC hk lw hd rows).length ≤ rows.length:=by
 unfold weaveC
 split
 ·rw [List.length_map]; exact Nat.le_refl _
 ·exact Nat.zero_le _
end Go.Proofs.Tryz
set_option linter.unusedVariables false
namespace Go.Proofs.Tryz
open Go Go.V Go.Proofs
def al_law03_TieGroups:AL ((Int × List Int × List Int) × Int):=(.cons (.agg (.cons (.k (.i .u8)) (.cons (.k (.list (.i .u8))) (.one (.k (.list (.i .u16))))))) (.one (.k (.i .u8))))
def pre_law03_TieGroups (d:(Int × List Int × List Int) × Int):Prop:=lOk d.1.1 d.1.2.1 d.1.2.2∧0 ≤ d.2∧d.2 ≤ 255
def res_law03_TieGroups (d:(Int × List Int × List Int) × Int):SV:=.val .bo true
def obs_law03_TieGroups (d:(Int × List Int × List Int) × Int):List OB:=[]
def s_law03_TieGroups:CSp:=mkSp al_law03_TieGroups pre_law03_TieGroups res_law03_TieGroups obs_law03_TieGroups
def vc_law03_TieGroups (h8:Int) (ws:List Int) (rs:List Int) (ti:Int):Prop :=
 (lOk h8 ws rs)∧∀ (y1:Int),y1=(gmin (12:Int) (hkN 16 h8))→∃ (e3:Int) (d30:(List Int) × Int),((ti=ti∧True∧(0:Int)=d30.2∧True)∧((y1=e3∧True∧(([]:List SV)=[]))∧((rowsN (hkN 16 h8) 12 rs)=d30.1∧false=false)∧True)) ∧
 LoopP (fun (d3:(List Int) × Int) (q3:((List Int) × Int)→Prop) =>
  ∀ (y10:Bool),y10=(decide (d3.2 < (lI d3.1)))→(y10=true →
   (0 ≤ d3.2)∧(d3.2 < (List.length d3.1))∧∀ (y11:Int),y11=(gD d3.1 d3.2 0)→(InK .u64 e3)∧(0 ≤ e3)∧(I64 (shlI .i64 (1:Int) e3))∧∀ (y12:Int),y12=(shlI .i64 (1:Int) e3)→(I64 (y12 - (1:Int)))∧∀ (y13:Int),y13=(vbits .and .i64 y11 (y12 - (1:Int)))→(0 ≤ d3.2)∧(d3.2 < (List.length d3.1))∧(I64 (d3.2 + (1:Int)))∧(∃ d4:(List Int) × Int,((ti=ti∧True∧(d3.2 + (1:Int))=d4.2∧True)∧((e3=e3∧True∧(([]:List SV)=[]))∧((sT d3.1 d3.2 y13)=d4.1∧false=false)∧True))∧q3 d4)) ∧
  (y10=false →
   (I64 ti)∧((2:Int) ≠ 0)∧∀ (y14:Int),y14=(Int.tmod ti (2:Int))→(I64 ((1:Int) + y14))∧(I64 (e3 - (1:Int)))∧(True)∧([((0:Int),((e3 - (1:Int)),((1:Int),((1:Int) + y14))))].length ≤ 1000)∧((if mkErr e3 [((0:Int),((e3 - (1:Int)),((1:Int),((1:Int) + y14))))]=0 then mkW [((0:Int),((e3 - (1:Int)),((1:Int),((1:Int) + y14))))] else []).isEmpty=true→(if mkErr e3 [((0:Int),((e3 - (1:Int)),((1:Int),((1:Int) + y14))))]=0 then mkW [((0:Int),((e3 - (1:Int)),((1:Int),((1:Int) + y14))))] else [])=[])∧((True∧((1:Int) + y14)=((1:Int) + y14)∧True∧True∧True∧True∧True∧True∧True∧True∧True∧True∧(mkErr e3 [((0:Int),((e3 - (1:Int)),((1:Int),((1:Int) + y14))))])=(mkErr e3 [((0:Int),((e3 - (1:Int)),((1:Int),((1:Int) + y14))))])∧True∧True∧True)∧((e3=e3∧True∧(([]:List SV)=[]))∧((if mkErr e3 [((0:Int),((e3 - (1:Int)),((1:Int),((1:Int) + y14))))]=0 then e3 else 0)=(if mkErr e3 [((0:Int),((e3 - (1:Int)),((1:Int),((1:Int) + y14))))]=0 then e3 else 0)∧True∧(([]:List SV)=[]))∧(d3.1=d3.1∧false=false)∧([((0:Int),((e3 - (1:Int)),((1:Int),((1:Int) + y14))))]=[((0:Int),((e3 - (1:Int)),((1:Int),((1:Int) + y14))))]∧false=false)∧((if mkErr e3 [((0:Int),((e3 - (1:Int)),((1:Int),((1:Int) + y14))))]=0 then mkW [((0:Int),((e3 - (1:Int)),((1:Int),((1:Int) + y14))))] else [])=(if mkErr e3 [((0:Int),((e3 - (1:Int)),((1:Int),((1:Int) + y14))))]=0 then mkW [((0:Int),((e3 - (1:Int)),((1:Int),((1:Int) + y14))))] else [])∧(if mkErr e3 [((0:Int),((e3 - (1:Int)),((1:Int),((1:Int) + y14))))]=0 then mkW [((0:Int),((e3 - (1:Int)),((1:Int),((1:Int) + y14))))] else []).isEmpty=(if mkErr e3 [((0:Int),((e3 - (1:Int)),((1:Int),((1:Int) + y14))))]=0 then mkW [((0:Int),((e3 - (1:Int)),((1:Int),((1:Int) + y14))))] else []).isEmpty)∧True))∧((I64 (e3 - (1:Int)))∧(True)∧([((0:Int),((e3 - (1:Int)),((1:Int),((1:Int) + y14))))].length ≤ 1000)∧((if mkErr e3 [((0:Int),((e3 - (1:Int)),((1:Int),((1:Int) + y14))))]=0 then mkW [((0:Int),((e3 - (1:Int)),((1:Int),((1:Int) + y14))))] else []).isEmpty=true→(if mkErr e3 [((0:Int),((e3 - (1:Int)),((1:Int),((1:Int) + y14))))]=0 then mkW [((0:Int),((e3 - (1:Int)),((1:Int),((1:Int) + y14))))] else [])=[])∧((True∧((1:Int) + y14)=((1:Int) + y14)∧True∧True∧True∧True∧True∧True∧True∧True∧True∧True∧(mkErr e3 [((0:Int),((e3 - (1:Int)),((1:Int),((1:Int) + y14))))])=(mkErr e3 [((0:Int),((e3 - (1:Int)),((1:Int),((1:Int) + y14))))])∧True∧True∧True)∧((e3=e3∧True∧(([]:List SV)=[]))∧((if mkErr e3 [((0:Int),((e3 - (1:Int)),((1:Int),((1:Int) + y14))))]=0 then e3 else 0)=(if mkErr e3 [((0:Int),((e3 - (1:Int)),((1:Int),((1:Int) + y14))))]=0 then e3 else 0)∧True∧(([]:List SV)=[]))∧(d3.1=d3.1∧false=false)∧([((0:Int),((e3 - (1:Int)),((1:Int),((1:Int) + y14))))]=[((0:Int),((e3 - (1:Int)),((1:Int),((1:Int) + y14))))]∧false=false)∧((if mkErr e3 [((0:Int),((e3 - (1:Int)),((1:Int),((1:Int) + y14))))]=0 then mkW [((0:Int),((e3 - (1:Int)),((1:Int),((1:Int) + y14))))] else [])=(if mkErr e3 [((0:Int),((e3 - (1:Int)),((1:Int),((1:Int) + y14))))]=0 then mkW [((0:Int),((e3 - (1:Int)),((1:Int),((1:Int) + y14))))] else [])∧(if mkErr e3 [((0:Int),((e3 - (1:Int)),((1:Int),((1:Int) + y14))))]=0 then mkW [((0:Int),((e3 - (1:Int)),((1:Int),((1:Int) + y14))))] else []).isEmpty=(if mkErr e3 [((0:Int),((e3 - (1:Int)),((1:Int),((1:Int) + y14))))]=0 then mkW [((0:Int),((e3 - (1:Int)),((1:Int),((1:Int) + y14))))] else []).isEmpty)∧True)))∧((I64 (e3 - (1:Int)))∧(True)∧([((0:Int),((e3 - (1:Int)),((1:Int),((1:Int) + y14))))].length ≤ 1000)∧((if mkErr e3 [((0:Int),((e3 - (1:Int)),((1:Int),((1:Int) + y14))))]=0 then mkW [((0:Int),((e3 - (1:Int)),((1:Int),((1:Int) + y14))))] else []).isEmpty=true→(if mkErr e3 [((0:Int),((e3 - (1:Int)),((1:Int),((1:Int) + y14))))]=0 then mkW [((0:Int),((e3 - (1:Int)),((1:Int),((1:Int) + y14))))] else [])=[])∧((True∧((1:Int) + y14)=((1:Int) + y14)∧True∧True∧True∧True∧True∧True∧True∧True∧True∧True∧(mkErr e3 [((0:Int),((e3 - (1:Int)),((1:Int),((1:Int) + y14))))])=(mkErr e3 [((0:Int),((e3 - (1:Int)),((1:Int),((1:Int) + y14))))])∧True∧True∧True)∧((e3=e3∧True∧(([]:List SV)=[]))∧((if mkErr e3 [((0:Int),((e3 - (1:Int)),((1:Int),((1:Int) + y14))))]=0 then e3 else 0)=(if mkErr e3 [((0:Int),((e3 - (1:Int)),((1:Int),((1:Int) + y14))))]=0 then e3 else 0)∧True∧(([]:List SV)=[]))∧(d3.1=d3.1∧false=false)∧([((0:Int),((e3 - (1:Int)),((1:Int),((1:Int) + y14))))]=[((0:Int),((e3 - (1:Int)),((1:Int),((1:Int) + y14))))]∧false=false)∧((if mkErr e3 [((0:Int),((e3 - (1:Int)),((1:Int),((1:Int) + y14))))]=0 then mkW [((0:Int),((e3 - (1:Int)),((1:Int),((1:Int) + y14))))] else [])=(if mkErr e3 [((0:Int),((e3 - (1:Int)),((1:Int),((1:Int) + y14))))]=0 then mkW [((0:Int),((e3 - (1:Int)),((1:Int),((1:Int) + y14))))] else [])∧(if mkErr e3 [((0:Int),((e3 - (1:Int)),((1:Int),((1:Int) + y14))))]=0 then mkW [((0:Int),((e3 - (1:Int)),((1:Int),((1:Int) + y14))))] else []).isEmpty=(if mkErr e3 [((0:Int),((e3 - (1:Int)),((1:Int),((1:Int) + y14))))]=0 then mkW [((0:Int),((e3 - (1:Int)),((1:Int),((1:Int) + y14))))] else []).isEmpty)∧True)))∧((I64 (e3 - (1:Int)))∧(True)∧([((0:Int),((e3 - (1:Int)),((1:Int),((1:Int) + y14))))].length ≤ 1000)∧((if mkErr e3 [((0:Int),((e3 - (1:Int)),((1:Int),((1:Int) + y14))))]=0 then mkW [((0:Int),((e3 - (1:Int)),((1:Int),((1:Int) + y14))))] else []).isEmpty=true→(if mkErr e3 [((0:Int),((e3 - (1:Int)),((1:Int),((1:Int) + y14))))]=0 then mkW [((0:Int),((e3 - (1:Int)),((1:Int),((1:Int) + y14))))] else [])=[])∧((True∧((1:Int) + y14)=((1:Int) + y14)∧True∧True∧True∧True∧True∧True∧True∧True∧True∧True∧(mkErr e3 [((0:Int),((e3 - (1:Int)),((1:Int),((1:Int) + y14))))])=(mkErr e3 [((0:Int),((e3 - (1:Int)),((1:Int),((1:Int) + y14))))])∧True∧True∧True)∧((e3=e3∧True∧(([]:List SV)=[]))∧((if mkErr e3 [((0:Int),((e3 - (1:Int)),((1:Int),((1:Int) + y14))))]=0 then e3 else 0)=(if mkErr e3 [((0:Int),((e3 - (1:Int)),((1:Int),((1:Int) + y14))))]=0 then e3 else 0)∧True∧(([]:List SV)=[]))∧(d3.1=d3.1∧false=false)∧([((0:Int),((e3 - (1:Int)),((1:Int),((1:Int) + y14))))]=[((0:Int),((e3 - (1:Int)),((1:Int),((1:Int) + y14))))]∧false=false)∧((if mkErr e3 [((0:Int),((e3 - (1:Int)),((1:Int),((1:Int) + y14))))]=0 then mkW [((0:Int),((e3 - (1:Int)),((1:Int),((1:Int) + y14))))] else [])=(if mkErr e3 [((0:Int),((e3 - (1:Int)),((1:Int),((1:Int) + y14))))]=0 then mkW [((0:Int),((e3 - (1:Int)),((1:Int),((1:Int) + y14))))] else [])∧(if mkErr e3 [((0:Int),((e3 - (1:Int)),((1:Int),((1:Int) + y14))))]=0 then mkW [((0:Int),((e3 - (1:Int)),((1:Int),((1:Int) + y14))))] else []).isEmpty=(if mkErr e3 [((0:Int),((e3 - (1:Int)),((1:Int),((1:Int) + y14))))]=0 then mkW [((0:Int),((e3 - (1:Int)),((1:Int),((1:Int) + y14))))] else []).isEmpty)∧True)))∧(I64 (e3 - (1:Int)))∧(True)∧([((0:Int),((e3 - (1:Int)),((2:Int),(1:Int))))].length ≤ 1000)∧((if mkErr e3 [((0:Int),((e3 - (1:Int)),((2:Int),(1:Int))))]=0 then mkW [((0:Int),((e3 - (1:Int)),((2:Int),(1:Int))))] else []).isEmpty=true→(if mkErr e3 [((0:Int),((e3 - (1:Int)),((2:Int),(1:Int))))]=0 then mkW [((0:Int),((e3 - (1:Int)),((2:Int),(1:Int))))] else [])=[])∧((True∧((1:Int) + y14)=((1:Int) + y14)∧True∧(mkErr e3 [((0:Int),((e3 - (1:Int)),((1:Int),((1:Int) + y14))))])=(mkErr e3 [((0:Int),((e3 - (1:Int)),((1:Int),((1:Int) + y14))))])∧True∧True∧True∧True∧True∧True∧True∧True∧(mkErr e3 [((0:Int),((e3 - (1:Int)),((1:Int),((1:Int) + y14))))])=(mkErr e3 [((0:Int),((e3 - (1:Int)),((1:Int),((1:Int) + y14))))])∧(mkErr e3 [((0:Int),((e3 - (1:Int)),((2:Int),(1:Int))))])=(mkErr e3 [((0:Int),((e3 - (1:Int)),((2:Int),(1:Int))))])∧True∧True)∧((e3=e3∧True∧(([]:List SV)=[]))∧((if mkErr e3 [((0:Int),((e3 - (1:Int)),((1:Int),((1:Int) + y14))))]=0 then e3 else 0)=(if mkErr e3 [((0:Int),((e3 - (1:Int)),((1:Int),((1:Int) + y14))))]=0 then e3 else 0)∧True∧(([]:List SV)=[]))∧((if mkErr e3 [((0:Int),((e3 - (1:Int)),((2:Int),(1:Int))))]=0 then e3 else 0)=(if mkErr e3 [((0:Int),((e3 - (1:Int)),((2:Int),(1:Int))))]=0 then e3 else 0)∧True∧(([]:List SV)=[]))∧(d3.1=d3.1∧false=false)∧([((0:Int),((e3 - (1:Int)),((1:Int),((1:Int) + y14))))]=[((0:Int),((e3 - (1:Int)),((1:Int),((1:Int) + y14))))]∧false=false)∧((if mkErr e3 [((0:Int),((e3 - (1:Int)),((1:Int),((1:Int) + y14))))]=0 then mkW [((0:Int),((e3 - (1:Int)),((1:Int),((1:Int) + y14))))] else [])=(if mkErr e3 [((0:Int),((e3 - (1:Int)),((1:Int),((1:Int) + y14))))]=0 then mkW [((0:Int),((e3 - (1:Int)),((1:Int),((1:Int) + y14))))] else [])∧(if mkErr e3 [((0:Int),((e3 - (1:Int)),((1:Int),((1:Int) + y14))))]=0 then mkW [((0:Int),((e3 - (1:Int)),((1:Int),((1:Int) + y14))))] else []).isEmpty=(if mkErr e3 [((0:Int),((e3 - (1:Int)),((1:Int),((1:Int) + y14))))]=0 then mkW [((0:Int),((e3 - (1:Int)),((1:Int),((1:Int) + y14))))] else []).isEmpty)∧([((0:Int),((e3 - (1:Int)),((2:Int),(1:Int))))]=[((0:Int),((e3 - (1:Int)),((2:Int),(1:Int))))]∧false=false)∧((if mkErr e3 [((0:Int),((e3 - (1:Int)),((2:Int),(1:Int))))]=0 then mkW [((0:Int),((e3 - (1:Int)),((2:Int),(1:Int))))] else [])=(if mkErr e3 [((0:Int),((e3 - (1:Int)),((2:Int),(1:Int))))]=0 then mkW [((0:Int),((e3 - (1:Int)),((2:Int),(1:Int))))] else [])∧(if mkErr e3 [((0:Int),((e3 - (1:Int)),((2:Int),(1:Int))))]=0 then mkW [((0:Int),((e3 - (1:Int)),((2:Int),(1:Int))))] else []).isEmpty=(if mkErr e3 [((0:Int),((e3 - (1:Int)),((2:Int),(1:Int))))]=0 then mkW [((0:Int),((e3 - (1:Int)),((2:Int),(1:Int))))] else []).isEmpty)∧True))∧((I64 (e3 - (1:Int)))∧(True)∧([((0:Int),((e3 - (1:Int)),((2:Int),(1:Int))))].length ≤ 1000)∧((if mkErr e3 [((0:Int),((e3 - (1:Int)),((2:Int),(1:Int))))]=0 then mkW [((0:Int),((e3 - (1:Int)),((2:Int),(1:Int))))] else []).isEmpty=true→(if mkErr e3 [((0:Int),((e3 - (1:Int)),((2:Int),(1:Int))))]=0 then mkW [((0:Int),((e3 - (1:Int)),((2:Int),(1:Int))))] else [])=[])∧((True∧((1:Int) + y14)=((1:Int) + y14)∧True∧(mkErr e3 [((0:Int),((e3 - (1:Int)),((1:Int),((1:Int) + y14))))])=(mkErr e3 [((0:Int),((e3 - (1:Int)),((1:Int),((1:Int) + y14))))])∧True∧True∧True∧True∧True∧True∧True∧True∧(mkErr e3 [((0:Int),((e3 - (1:Int)),((1:Int),((1:Int) + y14))))])=(mkErr e3 [((0:Int),((e3 - (1:Int)),((1:Int),((1:Int) + y14))))])∧(mkErr e3 [((0:Int),((e3 - (1:Int)),((2:Int),(1:Int))))])=(mkErr e3 [((0:Int),((e3 - (1:Int)),((2:Int),(1:Int))))])∧True∧True)∧((e3=e3∧True∧(([]:List SV)=[]))∧((if mkErr e3 [((0:Int),((e3 - (1:Int)),((1:Int),((1:Int) + y14))))]=0 then e3 else 0)=(if mkErr e3 [((0:Int),((e3 - (1:Int)),((1:Int),((1:Int) + y14))))]=0 then e3 else 0)∧True∧(([]:List SV)=[]))∧((if mkErr e3 [((0:Int),((e3 - (1:Int)),((2:Int),(1:Int))))]=0 then e3 else 0)=(if mkErr e3 [((0:Int),((e3 - (1:Int)),((2:Int),(1:Int))))]=0 then e3 else 0)∧True∧(([]:List SV)=[]))∧(d3.1=d3.1∧false=false)∧([((0:Int),((e3 - (1:Int)),((1:Int),((1:Int) + y14))))]=[((0:Int),((e3 - (1:Int)),((1:Int),((1:Int) + y14))))]∧false=false)∧((if mkErr e3 [((0:Int),((e3 - (1:Int)),((1:Int),((1:Int) + y14))))]=0 then mkW [((0:Int),((e3 - (1:Int)),((1:Int),((1:Int) + y14))))] else [])=(if mkErr e3 [((0:Int),((e3 - (1:Int)),((1:Int),((1:Int) + y14))))]=0 then mkW [((0:Int),((e3 - (1:Int)),((1:Int),((1:Int) + y14))))] else [])∧(if mkErr e3 [((0:Int),((e3 - (1:Int)),((1:Int),((1:Int) + y14))))]=0 then mkW [((0:Int),((e3 - (1:Int)),((1:Int),((1:Int) + y14))))] else []).isEmpty=(if mkErr e3 [((0:Int),((e3 - (1:Int)),((1:Int),((1:Int) + y14))))]=0 then mkW [((0:Int),((e3 - (1:Int)),((1:Int),((1:Int) + y14))))] else []).isEmpty)∧([((0:Int),((e3 - (1:Int)),((2:Int),(1:Int))))]=[((0:Int),((e3 - (1:Int)),((2:Int),(1:Int))))]∧false=false)∧((if mkErr e3 [((0:Int),((e3 - (1:Int)),((2:Int),(1:Int))))]=0 then mkW [((0:Int),((e3 - (1:Int)),((2:Int),(1:Int))))] else [])=(if mkErr e3 [((0:Int),((e3 - (1:Int)),((2:Int),(1:Int))))]=0 then mkW [((0:Int),((e3 - (1:Int)),((2:Int),(1:Int))))] else [])∧(if mkErr e3 [((0:Int),((e3 - (1:Int)),((2:Int),(1:Int))))]=0 then mkW [((0:Int),((e3 - (1:Int)),((2:Int),(1:Int))))] else []).isEmpty=(if mkErr e3 [((0:Int),((e3 - (1:Int)),((2:Int),(1:Int))))]=0 then mkW [((0:Int),((e3 - (1:Int)),((2:Int),(1:Int))))] else []).isEmpty)∧True)))∧((I64 (e3 - (1:Int)))∧(True)∧([((0:Int),((e3 - (1:Int)),((2:Int),(1:Int))))].length ≤ 1000)∧((if mkErr e3 [((0:Int),((e3 - (1:Int)),((2:Int),(1:Int))))]=0 then mkW [((0:Int),((e3 - (1:Int)),((2:Int),(1:Int))))] else []).isEmpty=true→(if mkErr e3 [((0:Int),((e3 - (1:Int)),((2:Int),(1:Int))))]=0 then mkW [((0:Int),((e3 - (1:Int)),((2:Int),(1:Int))))] else [])=[])∧((True∧((1:Int) + y14)=((1:Int) + y14)∧True∧(mkErr e3 [((0:Int),((e3 - (1:Int)),((1:Int),((1:Int) + y14))))])=(mkErr e3 [((0:Int),((e3 - (1:Int)),((1:Int),((1:Int) + y14))))])∧True∧True∧True∧True∧True∧True∧True∧True∧(mkErr e3 [((0:Int),((e3 - (1:Int)),((1:Int),((1:Int) + y14))))])=(mkErr e3 [((0:Int),((e3 - (1:Int)),((1:Int),((1:Int) + y14))))])∧(mkErr e3 [((0:Int),((e3 - (1:Int)),((2:Int),(1:Int))))])=(mkErr e3 [((0:Int),((e3 - (1:Int)),((2:Int),(1:Int))))])∧True∧True)∧((e3=e3∧True∧(([]:List SV)=[]))∧((if mkErr e3 [((0:Int),((e3 - (1:Int)),((1:Int),((1:Int) + y14))))]=0 then e3 else 0)=(if mkErr e3 [((0:Int),((e3 - (1:Int)),((1:Int),((1:Int) + y14))))]=0 then e3 else 0)∧True∧(([]:List SV)=[]))∧((if mkErr e3 [((0:Int),((e3 - (1:Int)),((2:Int),(1:Int))))]=0 then e3 else 0)=(if mkErr e3 [((0:Int),((e3 - (1:Int)),((2:Int),(1:Int))))]=0 then e3 else 0)∧True∧(([]:List SV)=[]))∧(d3.1=d3.1∧false=false)∧([((0:Int),((e3 - (1:Int)),((1:Int),((1:Int) + y14))))]=[((0:Int),((e3 - (1:Int)),((1:Int),((1:Int) + y14))))]∧false=false)∧((if mkErr e3 [((0:Int),((e3 - (1:Int)),((1:Int),((1:Int) + y14))))]=0 then mkW [((0:Int),((e3 - (1:Int)),((1:Int),((1:Int) + y14))))] else [])=(if mkErr e3 [((0:Int),((e3 - (1:Int)),((1:Int),((1:Int) + y14))))]=0 then mkW [((0:Int),((e3 - (1:Int)),((1:Int),((1:Int) + y14))))] else [])∧(if mkErr e3 [((0:Int),((e3 - (1:Int)),((1:Int),((1:Int) + y14))))]=0 then mkW [((0:Int),((e3 - (1:Int)),((1:Int),((1:Int) + y14))))] else []).isEmpty=(if mkErr e3 [((0:Int),((e3 - (1:Int)),((1:Int),((1:Int) + y14))))]=0 then mkW [((0:Int),((e3 - (1:Int)),((1:Int),((1:Int) + y14))))] else []).isEmpty)∧([((0:Int),((e3 - (1:Int)),((2:Int),(1:Int))))]=[((0:Int),((e3 - (1:Int)),((2:Int),(1:Int))))]∧false=false)∧((if mkErr e3 [((0:Int),((e3 - (1:Int)),((2:Int),(1:Int))))]=0 then mkW [((0:Int),((e3 - (1:Int)),((2:Int),(1:Int))))] else [])=(if mkErr e3 [((0:Int),((e3 - (1:Int)),((2:Int),(1:Int))))]=0 then mkW [((0:Int),((e3 - (1:Int)),((2:Int),(1:Int))))] else [])∧(if mkErr e3 [((0:Int),((e3 - (1:Int)),((2:Int),(1:Int))))]=0 then mkW [((0:Int),((e3 - (1:Int)),((2:Int),(1:Int))))] else []).isEmpty=(if mkErr e3 [((0:Int),((e3 - (1:Int)),((2:Int),(1:Int))))]=0 then mkW [((0:Int),((e3 - (1:Int)),((2:Int),(1:Int))))] else []).isEmpty)∧True)))∧((I64 (e3 - (1:Int)))∧(True)∧([((0:Int),((e3 - (1:Int)),((2:Int),(1:Int))))].length ≤ 1000)∧((if mkErr e3 [((0:Int),((e3 - (1:Int)),((2:Int),(1:Int))))]=0 then mkW [((0:Int),((e3 - (1:Int)),((2:Int),(1:Int))))] else []).isEmpty=true→(if mkErr e3 [((0:Int),((e3 - (1:Int)),((2:Int),(1:Int))))]=0 then mkW [((0:Int),((e3 - (1:Int)),((2:Int),(1:Int))))] else [])=[])∧((True∧((1:Int) + y14)=((1:Int) + y14)∧True∧(mkErr e3 [((0:Int),((e3 - (1:Int)),((1:Int),((1:Int) + y14))))])=(mkErr e3 [((0:Int),((e3 - (1:Int)),((1:Int),((1:Int) + y14))))])∧True∧True∧True∧True∧True∧True∧True∧True∧(mkErr e3 [((0:Int),((e3 - (1:Int)),((1:Int),((1:Int) + y14))))])=(mkErr e3 [((0:Int),((e3 - (1:Int)),((1:Int),((1:Int) + y14))))])∧(mkErr e3 [((0:Int),((e3 - (1:Int)),((2:Int),(1:Int))))])=(mkErr e3 [((0:Int),((e3 - (1:Int)),((2:Int),(1:Int))))])∧True∧True)∧((e3=e3∧True∧(([]:List SV)=[]))∧((if mkErr e3 [((0:Int),((e3 - (1:Int)),((1:Int),((1:Int) + y14))))]=0 then e3 else 0)=(if mkErr e3 [((0:Int),((e3 - (1:Int)),((1:Int),((1:Int) + y14))))]=0 then e3 else 0)∧True∧(([]:List SV)=[]))∧((if mkErr e3 [((0:Int),((e3 - (1:Int)),((2:Int),(1:Int))))]=0 then e3 else 0)=(if mkErr e3 [((0:Int),((e3 - (1:Int)),((2:Int),(1:Int))))]=0 then e3 else 0)∧True∧(([]:List SV)=[]))∧(d3.1=d3.1∧false=false)∧([((0:Int),((e3 - (1:Int)),((1:Int),((1:Int) + y14))))]=[((0:Int),((e3 - (1:Int)),((1:Int),((1:Int) + y14))))]∧false=false)∧((if mkErr e3 [((0:Int),((e3 - (1:Int)),((1:Int),((1:Int) + y14))))]=0 then mkW [((0:Int),((e3 - (1:Int)),((1:Int),((1:Int) + y14))))] else [])=(if mkErr e3 [((0:Int),((e3 - (1:Int)),((1:Int),((1:Int) + y14))))]=0 then mkW [((0:Int),((e3 - (1:Int)),((1:Int),((1:Int) + y14))))] else [])∧(if mkErr e3 [((0:Int),((e3 - (1:Int)),((1:Int),((1:Int) + y14))))]=0 then mkW [((0:Int),((e3 - (1:Int)),((1:Int),((1:Int) + y14))))] else []).isEmpty=(if mkErr e3 [((0:Int),((e3 - (1:Int)),((1:Int),((1:Int) + y14))))]=0 then mkW [((0:Int),((e3 - (1:Int)),((1:Int),((1:Int) + y14))))] else []).isEmpty)∧([((0:Int),((e3 - (1:Int)),((2:Int),(1:Int))))]=[((0:Int),((e3 - (1:Int)),((2:Int),(1:Int))))]∧false=false)∧((if mkErr e3 [((0:Int),((e3 - (1:Int)),((2:Int),(1:Int))))]=0 then mkW [((0:Int),((e3 - (1:Int)),((2:Int),(1:Int))))] else [])=(if mkErr e3 [((0:Int),((e3 - (1:Int)),((2:Int),(1:Int))))]=0 then mkW [((0:Int),((e3 - (1:Int)),((2:Int),(1:Int))))] else [])∧(if mkErr e3 [((0:Int),((e3 - (1:Int)),((2:Int),(1:Int))))]=0 then mkW [((0:Int),((e3 - (1:Int)),((2:Int),(1:Int))))] else []).isEmpty=(if mkErr e3 [((0:Int),((e3 - (1:Int)),((2:Int),(1:Int))))]=0 then mkW [((0:Int),((e3 - (1:Int)),((2:Int),(1:Int))))] else []).isEmpty)∧True)))∧(d3.1.length ≤ 1000)∧(false=true→d3.1=[])∧((if mkErr e3 [((0:Int),((e3 - (1:Int)),((1:Int),((1:Int) + y14))))]=0 then mkW [((0:Int),((e3 - (1:Int)),((1:Int),((1:Int) + y14))))] else []).length ≤ 110∧d3.1.length ≤ 110)∧(d3.1.length ≤ 1000)∧(false=true→d3.1=[])∧((if mkErr e3 [((0:Int),((e3 - (1:Int)),((2:Int),(1:Int))))]=0 then mkW [((0:Int),((e3 - (1:Int)),((2:Int),(1:Int))))] else []).length ≤ 110∧d3.1.length ≤ 110)∧(d3.1.length ≤ 1000)∧∀ (y15:Bool),y15=(((1:Int) + y14) == (2:Int))→(y15=true →
    (d3.1.length ≤ 1000)∧(false=true→d3.1=[])∧(d3.1.length ≤ 1000)∧(false=true→d3.1=[])∧(d3.1.length ≤ 1000∧d3.1.length ≤ 1000)∧((sbR e3 d3.1 e3 d3.1).isEmpty=true→(sbR e3 d3.1 e3 d3.1)=[])∧((True∧((1:Int) + y14)=((1:Int) + y14)∧True∧(mkErr e3 [((0:Int),((e3 - (1:Int)),((1:Int),((1:Int) + y14))))])=(mkErr e3 [((0:Int),((e3 - (1:Int)),((1:Int),((1:Int) + y14))))])∧True∧(mkErr e3 [((0:Int),((e3 - (1:Int)),((2:Int),(1:Int))))])=(mkErr e3 [((0:Int),((e3 - (1:Int)),((2:Int),(1:Int))))])∧True∧weaveErr (if mkErr e3 [((0:Int),((e3 - (1:Int)),((1:Int),((1:Int) + y14))))]=0 then e3 else 0) (if mkErr e3 [((0:Int),((e3 - (1:Int)),((1:Int),((1:Int) + y14))))]=0 then mkW [((0:Int),((e3 - (1:Int)),((1:Int),((1:Int) + y14))))] else []) e3 d3.1=weaveErr (if mkErr e3 [((0:Int),((e3 - (1:Int)),((1:Int),((1:Int) + y14))))]=0 then e3 else 0) (if mkErr e3 [((0:Int),((e3 - (1:Int)),((1:Int),((1:Int) + y14))))]=0 then mkW [((0:Int),((e3 - (1:Int)),((1:Int),((1:Int) + y14))))] else []) e3 d3.1∧True∧weaveErr (if mkErr e3 [((0:Int),((e3 - (1:Int)),((2:Int),(1:Int))))]=0 then e3 else 0) (if mkErr e3 [((0:Int),((e3 - (1:Int)),((2:Int),(1:Int))))]=0 then mkW [((0:Int),((e3 - (1:Int)),((2:Int),(1:Int))))] else []) e3 d3.1=weaveErr (if mkErr e3 [((0:Int),((e3 - (1:Int)),((2:Int),(1:Int))))]=0 then e3 else 0) (if mkErr e3 [((0:Int),((e3 - (1:Int)),((2:Int),(1:Int))))]=0 then mkW [((0:Int),((e3 - (1:Int)),((2:Int),(1:Int))))] else []) e3 d3.1∧True∧True∧(mkErr e3 [((0:Int),((e3 - (1:Int)),((1:Int),((1:Int) + y14))))])=(mkErr e3 [((0:Int),((e3 - (1:Int)),((1:Int),((1:Int) + y14))))])∧(mkErr e3 [((0:Int),((e3 - (1:Int)),((2:Int),(1:Int))))])=(mkErr e3 [((0:Int),((e3 - (1:Int)),((2:Int),(1:Int))))])∧(sbErr e3 d3.1 e3 d3.1)=(sbErr e3 d3.1 e3 d3.1)∧True)∧((e3=e3∧True∧(([]:List SV)=[]))∧((if mkErr e3 [((0:Int),((e3 - (1:Int)),((1:Int),((1:Int) + y14))))]=0 then e3 else 0)=(if mkErr e3 [((0:Int),((e3 - (1:Int)),((1:Int),((1:Int) + y14))))]=0 then e3 else 0)∧True∧(([]:List SV)=[]))∧((if mkErr e3 [((0:Int),((e3 - (1:Int)),((2:Int),(1:Int))))]=0 then e3 else 0)=(if mkErr e3 [((0:Int),((e3 - (1:Int)),((2:Int),(1:Int))))]=0 then e3 else 0)∧True∧(([]:List SV)=[]))∧(e3=e3∧True∧(([]:List SV)=[]))∧((if sbErr e3 d3.1 e3 d3.1=0 then e3 + e3 else 0)=(if sbErr e3 d3.1 e3 d3.1=0 then e3 + e3 else 0)∧True∧(([]:List SV)=[]))∧(d3.1=d3.1∧false=false)∧([((0:Int),((e3 - (1:Int)),((1:Int),((1:Int) + y14))))]=[((0:Int),((e3 - (1:Int)),((1:Int),((1:Int) + y14))))]∧false=false)∧((if mkErr e3 [((0:Int),((e3 - (1:Int)),((1:Int),((1:Int) + y14))))]=0 then mkW [((0:Int),((e3 - (1:Int)),((1:Int),((1:Int) + y14))))] else [])=(if mkErr e3 [((0:Int),((e3 - (1:Int)),((1:Int),((1:Int) + y14))))]=0 then mkW [((0:Int),((e3 - (1:Int)),((1:Int),((1:Int) + y14))))] else [])∧(if mkErr e3 [((0:Int),((e3 - (1:Int)),((1:Int),((1:Int) + y14))))]=0 then mkW [((0:Int),((e3 - (1:Int)),((1:Int),((1:Int) + y14))))] else []).isEmpty=(if mkErr e3 [((0:Int),((e3 - (1:Int)),((1:Int),((1:Int) + y14))))]=0 then mkW [((0:Int),((e3 - (1:Int)),((1:Int),((1:Int) + y14))))] else []).isEmpty)∧([((0:Int),((e3 - (1:Int)),((2:Int),(1:Int))))]=[((0:Int),((e3 - (1:Int)),((2:Int),(1:Int))))]∧false=false)∧((if mkErr e3 [((0:Int),((e3 - (1:Int)),((2:Int),(1:Int))))]=0 then mkW [((0:Int),((e3 - (1:Int)),((2:Int),(1:Int))))] else [])=(if mkErr e3 [((0:Int),((e3 - (1:Int)),((2:Int),(1:Int))))]=0 then mkW [((0:Int),((e3 - (1:Int)),((2:Int),(1:Int))))] else [])∧(if mkErr e3 [((0:Int),((e3 - (1:Int)),((2:Int),(1:Int))))]=0 then mkW [((0:Int),((e3 - (1:Int)),((2:Int),(1:Int))))] else []).isEmpty=(if mkErr e3 [((0:Int),((e3 - (1:Int)),((2:Int),(1:Int))))]=0 then mkW [((0:Int),((e3 - (1:Int)),((2:Int),(1:Int))))] else []).isEmpty)∧(d3.1=d3.1∧false=false)∧((weaveC (if mkErr e3 [((0:Int),((e3 - (1:Int)),((1:Int),((1:Int) + y14))))]=0 then e3 else 0) (if mkErr e3 [((0:Int),((e3 - (1:Int)),((1:Int),((1:Int) + y14))))]=0 then mkW [((0:Int),((e3 - (1:Int)),((1:Int),((1:Int) + y14))))] else []) e3 d3.1)=(weaveC (if mkErr e3 [((0:Int),((e3 - (1:Int)),((1:Int),((1:Int) + y14))))]=0 then e3 else 0) (if mkErr e3 [((0:Int),((e3 - (1:Int)),((1:Int),((1:Int) + y14))))]=0 then mkW [((0:Int),((e3 - (1:Int)),((1:Int),((1:Int) + y14))))] else []) e3 d3.1)∧(weaveC (if mkErr e3 [((0:Int),((e3 - (1:Int)),((1:Int),((1:Int) + y14))))]=0 then e3 else 0) (if mkErr e3 [((0:Int),((e3 - (1:Int)),((1:Int),((1:Int) + y14))))]=0 then mkW [((0:Int),((e3 - (1:Int)),((1:Int),((1:Int) + y14))))] else []) e3 d3.1).isEmpty=(weaveC (if mkErr e3 [((0:Int),((e3 - (1:Int)),((1:Int),((1:Int) + y14))))]=0 then e3 else 0) (if mkErr e3 [((0:Int),((e3 - (1:Int)),((1:Int),((1:Int) + y14))))]=0 then mkW [((0:Int),((e3 - (1:Int)),((1:Int),((1:Int) + y14))))] else []) e3 d3.1).isEmpty)∧(d3.1=d3.1∧false=false)∧((weaveC (if mkErr e3 [((0:Int),((e3 - (1:Int)),((2:Int),(1:Int))))]=0 then e3 else 0) (if mkErr e3 [((0:Int),((e3 - (1:Int)),((2:Int),(1:Int))))]=0 then mkW [((0:Int),((e3 - (1:Int)),((2:Int),(1:Int))))] else []) e3 d3.1)=(weaveC (if mkErr e3 [((0:Int),((e3 - (1:Int)),((2:Int),(1:Int))))]=0 then e3 else 0) (if mkErr e3 [((0:Int),((e3 - (1:Int)),((2:Int),(1:Int))))]=0 then mkW [((0:Int),((e3 - (1:Int)),((2:Int),(1:Int))))] else []) e3 d3.1)∧(weaveC (if mkErr e3 [((0:Int),((e3 - (1:Int)),((2:Int),(1:Int))))]=0 then e3 else 0) (if mkErr e3 [((0:Int),((e3 - (1:Int)),((2:Int),(1:Int))))]=0 then mkW [((0:Int),((e3 - (1:Int)),((2:Int),(1:Int))))] else []) e3 d3.1).isEmpty=(weaveC (if mkErr e3 [((0:Int),((e3 - (1:Int)),((2:Int),(1:Int))))]=0 then e3 else 0) (if mkErr e3 [((0:Int),((e3 - (1:Int)),((2:Int),(1:Int))))]=0 then mkW [((0:Int),((e3 - (1:Int)),((2:Int),(1:Int))))] else []) e3 d3.1).isEmpty)∧(d3.1=d3.1∧false=false)∧(d3.1=d3.1∧false=false)∧(d3.1=d3.1∧false=false)∧((sbR e3 d3.1 e3 d3.1)=(sbR e3 d3.1 e3 d3.1)∧(sbR e3 d3.1 e3 d3.1).isEmpty=(sbR e3 d3.1 e3 d3.1).isEmpty)∧True))∧((d3.1.length ≤ 1000)∧(false=true→d3.1=[])∧(d3.1.length ≤ 1000)∧(false=true→d3.1=[])∧(d3.1.length ≤ 1000∧d3.1.length ≤ 1000)∧((sbR e3 d3.1 e3 d3.1).isEmpty=true→(sbR e3 d3.1 e3 d3.1)=[])∧((True∧((1:Int) + y14)=((1:Int) + y14)∧True∧(mkErr e3 [((0:Int),((e3 - (1:Int)),((1:Int),((1:Int) + y14))))])=(mkErr e3 [((0:Int),((e3 - (1:Int)),((1:Int),((1:Int) + y14))))])∧True∧(mkErr e3 [((0:Int),((e3 - (1:Int)),((2:Int),(1:Int))))])=(mkErr e3 [((0:Int),((e3 - (1:Int)),((2:Int),(1:Int))))])∧True∧weaveErr (if mkErr e3 [((0:Int),((e3 - (1:Int)),((1:Int),((1:Int) + y14))))]=0 then e3 else 0) (if mkErr e3 [((0:Int),((e3 - (1:Int)),((1:Int),((1:Int) + y14))))]=0 then mkW [((0:Int),((e3 - (1:Int)),((1:Int),((1:Int) + y14))))] else []) e3 d3.1=weaveErr (if mkErr e3 [((0:Int),((e3 - (1:Int)),((1:Int),((1:Int) + y14))))]=0 then e3 else 0) (if mkErr e3 [((0:Int),((e3 - (1:Int)),((1:Int),((1:Int) + y14))))]=0 then mkW [((0:Int),((e3 - (1:Int)),((1:Int),((1:Int) + y14))))] else []) e3 d3.1∧True∧weaveErr (if mkErr e3 [((0:Int),((e3 - (1:Int)),((2:Int),(1:Int))))]=0 then e3 else 0) (if mkErr e3 [((0:Int),((e3 - (1:Int)),((2:Int),(1:Int))))]=0 then mkW [((0:Int),((e3 - (1:Int)),((2:Int),(1:Int))))] else []) e3 d3.1=weaveErr (if mkErr e3 [((0:Int),((e3 - (1:Int)),((2:Int),(1:Int))))]=0 then e3 else 0) (if mkErr e3 [((0:Int),((e3 - (1:Int)),((2:Int),(1:Int))))]=0 then mkW [((0:Int),((e3 - (1:Int)),((2:Int),(1:Int))))] else []) e3 d3.1∧True∧True∧(mkErr e3 [((0:Int),((e3 - (1:Int)),((1:Int),((1:Int) + y14))))])=(mkErr e3 [((0:Int),((e3 - (1:Int)),((1:Int),((1:Int) + y14))))])∧(mkErr e3 [((0:Int),((e3 - (1:Int)),((2:Int),(1:Int))))])=(mkErr e3 [((0:Int),((e3 - (1:Int)),((2:Int),(1:Int))))])∧(sbErr e3 d3.1 e3 d3.1)=(sbErr e3 d3.1 e3 d3.1)∧True)∧((e3=e3∧True∧(([]:List SV)=[]))∧((if mkErr e3 [((0:Int),((e3 - (1:Int)),((1:Int),((1:Int) + y14))))]=0 then e3 else 0)=(if mkErr e3 [((0:Int),((e3 - (1:Int)),((1:Int),((1:Int) + y14))))]=0 then e3 else 0)∧True∧(([]:List SV)=[]))∧((if mkErr e3 [((0:Int),((e3 - (1:Int)),((2:Int),(1:Int))))]=0 then e3 else 0)=(if mkErr e3 [((0:Int),((e3 - (1:Int)),((2:Int),(1:Int))))]=0 then e3 else 0)∧True∧(([]:List SV)=[]))∧(e3=e3∧True∧(([]:List SV)=[]))∧((if sbErr e3 d3.1 e3 d3.1=0 then e3 + e3 else 0)=(if sbErr e3 d3.1 e3 d3.1=0 then e3 + e3 else 0)∧True∧(([]:List SV)=[]))∧(d3.1=d3.1∧false=false)∧([((0:Int),((e3 - (1:Int)),((1:Int),((1:Int) + y14))))]=[((0:Int),((e3 - (1:Int)),((1:Int),((1:Int) + y14))))]∧false=false)∧((if mkErr e3 [((0:Int),((e3 - (1:Int)),((1:Int),((1:Int) + y14))))]=0 then mkW [((0:Int),((e3 - (1:Int)),((1:Int),((1:Int) + y14))))] else [])=(if mkErr e3 [((0:Int),((e3 - (1:Int)),((1:Int),((1:Int) + y14))))]=0 then mkW [((0:Int),((e3 - (1:Int)),((1:Int),((1:Int) + y14))))] else [])∧(if mkErr e3 [((0:Int),((e3 - (1:Int)),((1:Int),((1:Int) + y14))))]=0 then mkW [((0:Int),((e3 - (1:Int)),((1:Int),((1:Int) + y14))))] else []).isEmpty=(if mkErr e3 [((0:Int),((e3 - (1:Int)),((1:Int),((1:Int) + y14))))]=0 then mkW [((0:Int),((e3 - (1:Int)),((1:Int),((1:Int) + y14))))] else []).isEmpty)∧([((0:Int),((e3 - (1:Int)),((2:Int),(1:Int))))]=[((0:Int),((e3 - (1:Int)),((2:Int),(1:Int))))]∧false=false)∧((if mkErr e3 [((0:Int),((e3 - (1:Int)),((2:Int),(1:Int))))]=0 then mkW [((0:Int),((e3 - (1:Int)),((2:Int),(1:Int))))] else [])=(if mkErr e3 [((0:Int),((e3 - (1:Int)),((2:Int),(1:Int))))]=0 then mkW [((0:Int),((e3 - (1:Int)),((2:Int),(1:Int))))] else [])∧(if mkErr e3 [((0:Int),((e3 - (1:Int)),((2:Int),(1:Int))))]=0 then mkW [((0:Int),((e3 - (1:Int)),((2:Int),(1:Int))))] else []).isEmpty=(if mkErr e3 [((0:Int),((e3 - (1:Int)),((2:Int),(1:Int))))]=0 then mkW [((0:Int),((e3 - (1:Int)),((2:Int),(1:Int))))] else []).isEmpty)∧(d3.1=d3.1∧false=false)∧((weaveC (if mkErr e3 [((0:Int),((e3 - (1:Int)),((1:Int),((1:Int) + y14))))]=0 then e3 else 0) (if mkErr e3 [((0:Int),((e3 - (1:Int)),((1:Int),((1:Int) + y14))))]=0 then mkW [((0:Int),((e3 - (1:Int)),((1:Int),((1:Int) + y14))))] else []) e3 d3.1)=(weaveC (if mkErr e3 [((0:Int),((e3 - (1:Int)),((1:Int),((1:Int) + y14))))]=0 then e3 else 0) (if mkErr e3 [((0:Int),((e3 - (1:Int)),((1:Int),((1:Int) + y14))))]=0 then mkW [((0:Int),((e3 - (1:Int)),((1:Int),((1:Int) + y14))))] else []) e3 d3.1)∧(weaveC (if mkErr e3 [((0:Int),((e3 - (1:Int)),((1:Int),((1:Int) + y14))))]=0 then e3 else 0) (if mkErr e3 [((0:Int),((e3 - (1:Int)),((1:Int),((1:Int) + y14))))]=0 then mkW [((0:Int),((e3 - (1:Int)),((1:Int),((1:Int) + y14))))] else []) e3 d3.1).isEmpty=(weaveC (if mkErr e3 [((0:Int),((e3 - (1:Int)),((1:Int),((1:Int) + y14))))]=0 then e3 else 0) (if mkErr e3 [((0:Int),((e3 - (1:Int)),((1:Int),((1:Int) + y14))))]=0 then mkW [((0:Int),((e3 - (1:Int)),((1:Int),((1:Int) + y14))))] else []) e3 d3.1).isEmpty)∧(d3.1=d3.1∧false=false)∧((weaveC (if mkErr e3 [((0:Int),((e3 - (1:Int)),((2:Int),(1:Int))))]=0 then e3 else 0) (if mkErr e3 [((0:Int),((e3 - (1:Int)),((2:Int),(1:Int))))]=0 then mkW [((0:Int),((e3 - (1:Int)),((2:Int),(1:Int))))] else []) e3 d3.1)=(weaveC (if mkErr e3 [((0:Int),((e3 - (1:Int)),((2:Int),(1:Int))))]=0 then e3 else 0) (if mkErr e3 [((0:Int),((e3 - (1:Int)),((2:Int),(1:Int))))]=0 then mkW [((0:Int),((e3 - (1:Int)),((2:Int),(1:Int))))] else []) e3 d3.1)∧(weaveC (if mkErr e3 [((0:Int),((e3 - (1:Int)),((2:Int),(1:Int))))]=0 then e3 else 0) (if mkErr e3 [((0:Int),((e3 - (1:Int)),((2:Int),(1:Int))))]=0 then mkW [((0:Int),((e3 - (1:Int)),((2:Int),(1:Int))))] else []) e3 d3.1).isEmpty=(weaveC (if mkErr e3 [((0:Int),((e3 - (1:Int)),((2:Int),(1:Int))))]=0 then e3 else 0) (if mkErr e3 [((0:Int),((e3 - (1:Int)),((2:Int),(1:Int))))]=0 then mkW [((0:Int),((e3 - (1:Int)),((2:Int),(1:Int))))] else []) e3 d3.1).isEmpty)∧(d3.1=d3.1∧false=false)∧(d3.1=d3.1∧false=false)∧(d3.1=d3.1∧false=false)∧((sbR e3 d3.1 e3 d3.1)=(sbR e3 d3.1 e3 d3.1)∧(sbR e3 d3.1 e3 d3.1).isEmpty=(sbR e3 d3.1 e3 d3.1).isEmpty)∧True)))∧((d3.1.length ≤ 1000)∧(false=true→d3.1=[])∧(d3.1.length ≤ 1000)∧(false=true→d3.1=[])∧(d3.1.length ≤ 1000∧d3.1.length ≤ 1000)∧((sbR e3 d3.1 e3 d3.1).isEmpty=true→(sbR e3 d3.1 e3 d3.1)=[])∧((True∧((1:Int) + y14)=((1:Int) + y14)∧True∧(mkErr e3 [((0:Int),((e3 - (1:Int)),((1:Int),((1:Int) + y14))))])=(mkErr e3 [((0:Int),((e3 - (1:Int)),((1:Int),((1:Int) + y14))))])∧True∧(mkErr e3 [((0:Int),((e3 - (1:Int)),((2:Int),(1:Int))))])=(mkErr e3 [((0:Int),((e3 - (1:Int)),((2:Int),(1:Int))))])∧True∧weaveErr (if mkErr e3 [((0:Int),((e3 - (1:Int)),((1:Int),((1:Int) + y14))))]=0 then e3 else 0) (if mkErr e3 [((0:Int),((e3 - (1:Int)),((1:Int),((1:Int) + y14))))]=0 then mkW [((0:Int),((e3 - (1:Int)),((1:Int),((1:Int) + y14))))] else []) e3 d3.1=weaveErr (if mkErr e3 [((0:Int),((e3 - (1:Int)),((1:Int),((1:Int) + y14))))]=0 then e3 else 0) (if mkErr e3 [((0:Int),((e3 - (1:Int)),((1:Int),((1:Int) + y14))))]=0 then mkW [((0:Int),((e3 - (1:Int)),((1:Int),((1:Int) + y14))))] else []) e3 d3.1∧True∧weaveErr (if mkErr e3 [((0:Int),((e3 - (1:Int)),((2:Int),(1:Int))))]=0 then e3 else 0) (if mkErr e3 [((0:Int),((e3 - (1:Int)),((2:Int),(1:Int))))]=0 then mkW [((0:Int),((e3 - (1:Int)),((2:Int),(1:Int))))] else []) e3 d3.1=weaveErr (if mkErr e3 [((0:Int),((e3 - (1:Int)),((2:Int),(1:Int))))]=0 then e3 else 0) (if mkErr e3 [((0:Int),((e3 - (1:Int)),((2:Int),(1:Int))))]=0 then mkW [((0:Int),((e3 - (1:Int)),((2:Int),(1:Int))))] else []) e3 d3.1∧True∧True∧(mkErr e3 [((0:Int),((e3 - (1:Int)),((1:Int),((1:Int) + y14))))])=(mkErr e3 [((0:Int),((e3 - (1:Int)),((1:Int),((1:Int) + y14))))])∧(mkErr e3 [((0:Int),((e3 - (1:Int)),((2:Int),(1:Int))))])=(mkErr e3 [((0:Int),((e3 - (1:Int)),((2:Int),(1:Int))))])∧(sbErr e3 d3.1 e3 d3.1)=(sbErr e3 d3.1 e3 d3.1)∧True)∧((e3=e3∧True∧(([]:List SV)=[]))∧((if mkErr e3 [((0:Int),((e3 - (1:Int)),((1:Int),((1:Int) + y14))))]=0 then e3 else 0)=(if mkErr e3 [((0:Int),((e3 - (1:Int)),((1:Int),((1:Int) + y14))))]=0 then e3 else 0)∧True∧(([]:List SV)=[]))∧((if mkErr e3 [((0:Int),((e3 - (1:Int)),((2:Int),(1:Int))))]=0 then e3 else 0)=(if mkErr e3 [((0:Int),((e3 - (1:Int)),((2:Int),(1:Int))))]=0 then e3 else 0)∧True∧(([]:List SV)=[]))∧(e3=e3∧True∧(([]:List SV)=[]))∧((if sbErr e3 d3.1 e3 d3.1=0 then e3 + e3 else 0)=(if sbErr e3 d3.1 e3 d3.1=0 then e3 + e3 else 0)∧True∧(([]:List SV)=[]))∧(d3.1=d3.1∧false=false)∧([((0:Int),((e3 - (1:Int)),((1:Int),((1:Int) + y14))))]=[((0:Int),((e3 - (1:Int)),((1:Int),((1:Int) + y14))))]∧false=false)∧((if mkErr e3 [((0:Int),((e3 - (1:Int)),((1:Int),((1:Int) + y14))))]=0 then mkW [((0:Int),((e3 - (1:Int)),((1:Int),((1:Int) + y14))))] else [])=(if mkErr e3 [((0:Int),((e3 - (1:Int)),((1:Int),((1:Int) + y14))))]=0 then mkW [((0:Int),((e3 - (1:Int)),((1:Int),((1:Int) + y14))))] else [])∧(if mkErr e3 [((0:Int),((e3 - (1:Int)),((1:Int),((1:Int) + y14))))]=0 then mkW [((0:Int),((e3 - (1:Int)),((1:Int),((1:Int) + y14))))] else []).isEmpty=(if mkErr e3 [((0:Int),((e3 - (1:Int)),((1:Int),((1:Int) + y14))))]=0 then mkW [((0:Int),((e3 - (1:Int)),((1:Int),((1:Int) + y14))))] else []).isEmpty)∧([((0:Int),((e3 - (1:Int)),((2:Int),(1:Int))))]=[((0:Int),((e3 - (1:Int)),((2:Int),(1:Int))))]∧false=false)∧((if mkErr e3 [((0:Int),((e3 - (1:Int)),((2:Int),(1:Int))))]=0 then mkW [((0:Int),((e3 - (1:Int)),((2:Int),(1:Int))))] else [])=(if mkErr e3 [((0:Int),((e3 - (1:Int)),((2:Int),(1:Int))))]=0 then mkW [((0:Int),((e3 - (1:Int)),((2:Int),(1:Int))))] else [])∧(if mkErr e3 [((0:Int),((e3 - (1:Int)),((2:Int),(1:Int))))]=0 then mkW [((0:Int),((e3 - (1:Int)),((2:Int),(1:Int))))] else []).isEmpty=(if mkErr e3 [((0:Int),((e3 - (1:Int)),((2:Int),(1:Int))))]=0 then mkW [((0:Int),((e3 - (1:Int)),((2:Int),(1:Int))))] else []).isEmpty)∧(d3.1=d3.1∧false=false)∧((weaveC (if mkErr e3 [((0:Int),((e3 - (1:Int)),((1:Int),((1:Int) + y14))))]=0 then e3 else 0) (if mkErr e3 [((0:Int),((e3 - (1:Int)),((1:Int),((1:Int) + y14))))]=0 then mkW [((0:Int),((e3 - (1:Int)),((1:Int),((1:Int) + y14))))] else []) e3 d3.1)=(weaveC (if mkErr e3 [((0:Int),((e3 - (1:Int)),((1:Int),((1:Int) + y14))))]=0 then e3 else 0) (if mkErr e3 [((0:Int),((e3 - (1:Int)),((1:Int),((1:Int) + y14))))]=0 then mkW [((0:Int),((e3 - (1:Int)),((1:Int),((1:Int) + y14))))] else []) e3 d3.1)∧(weaveC (if mkErr e3 [((0:Int),((e3 - (1:Int)),((1:Int),((1:Int) + y14))))]=0 then e3 else 0) (if mkErr e3 [((0:Int),((e3 - (1:Int)),((1:Int),((1:Int) + y14))))]=0 then mkW [((0:Int),((e3 - (1:Int)),((1:Int),((1:Int) + y14))))] else []) e3 d3.1).isEmpty=(weaveC (if mkErr e3 [((0:Int),((e3 - (1:Int)),((1:Int),((1:Int) + y14))))]=0 then e3 else 0) (if mkErr e3 [((0:Int),((e3 - (1:Int)),((1:Int),((1:Int) + y14))))]=0 then mkW [((0:Int),((e3 - (1:Int)),((1:Int),((1:Int) + y14))))] else []) e3 d3.1).isEmpty)∧(d3.1=d3.1∧false=false)∧((weaveC (if mkErr e3 [((0:Int),((e3 - (1:Int)),((2:Int),(1:Int))))]=0 then e3 else 0) (if mkErr e3 [((0:Int),((e3 - (1:Int)),((2:Int),(1:Int))))]=0 then mkW [((0:Int),((e3 - (1:Int)),((2:Int),(1:Int))))] else []) e3 d3.1)=(weaveC (if mkErr e3 [((0:Int),((e3 - (1:Int)),((2:Int),(1:Int))))]=0 then e3 else 0) (if mkErr e3 [((0:Int),((e3 - (1:Int)),((2:Int),(1:Int))))]=0 then mkW [((0:Int),((e3 - (1:Int)),((2:Int),(1:Int))))] else []) e3 d3.1)∧(weaveC (if mkErr e3 [((0:Int),((e3 - (1:Int)),((2:Int),(1:Int))))]=0 then e3 else 0) (if mkErr e3 [((0:Int),((e3 - (1:Int)),((2:Int),(1:Int))))]=0 then mkW [((0:Int),((e3 - (1:Int)),((2:Int),(1:Int))))] else []) e3 d3.1).isEmpty=(weaveC (if mkErr e3 [((0:Int),((e3 - (1:Int)),((2:Int),(1:Int))))]=0 then e3 else 0) (if mkErr e3 [((0:Int),((e3 - (1:Int)),((2:Int),(1:Int))))]=0 then mkW [((0:Int),((e3 - (1:Int)),((2:Int),(1:Int))))] else []) e3 d3.1).isEmpty)∧(d3.1=d3.1∧false=false)∧(d3.1=d3.1∧false=false)∧(d3.1=d3.1∧false=false)∧((sbR e3 d3.1 e3 d3.1)=(sbR e3 d3.1 e3 d3.1)∧(sbR e3 d3.1 e3 d3.1).isEmpty=(sbR e3 d3.1 e3 d3.1).isEmpty)∧True)))∧((d3.1.length ≤ 1000)∧(false=true→d3.1=[])∧(d3.1.length ≤ 1000)∧(false=true→d3.1=[])∧(d3.1.length ≤ 1000∧d3.1.length ≤ 1000)∧((sbR e3 d3.1 e3 d3.1).isEmpty=true→(sbR e3 d3.1 e3 d3.1)=[])∧((True∧((1:Int) + y14)=((1:Int) + y14)∧True∧(mkErr e3 [((0:Int),((e3 - (1:Int)),((1:Int),((1:Int) + y14))))])=(mkErr e3 [((0:Int),((e3 - (1:Int)),((1:Int),((1:Int) + y14))))])∧True∧(mkErr e3 [((0:Int),((e3 - (1:Int)),((2:Int),(1:Int))))])=(mkErr e3 [((0:Int),((e3 - (1:Int)),((2:Int),(1:Int))))])∧True∧weaveErr (if mkErr e3 [((0:Int),((e3 - (1:Int)),((1:Int),((1:Int) + y14))))]=0 then e3 else 0) (if mkErr e3 [((0:Int),((e3 - (1:Int)),((1:Int),((1:Int) + y14))))]=0 then mkW [((0:Int),((e3 - (1:Int)),((1:Int),((1:Int) + y14))))] else []) e3 d3.1=weaveErr (if mkErr e3 [((0:Int),((e3 - (1:Int)),((1:Int),((1:Int) + y14))))]=0 then e3 else 0) (if mkErr e3 [((0:Int),((e3 - (1:Int)),((1:Int),((1:Int) + y14))))]=0 then mkW [((0:Int),((e3 - (1:Int)),((1:Int),((1:Int) + y14))))] else []) e3 d3.1∧True∧weaveErr (if mkErr e3 [((0:Int),((e3 - (1:Int)),((2:Int),(1:Int))))]=0 then e3 else 0) (if mkErr e3 [((0:Int),((e3 - (1:Int)),((2:Int),(1:Int))))]=0 then mkW [((0:Int),((e3 - (1:Int)),((2:Int),(1:Int))))] else []) e3 d3.1=weaveErr (if mkErr e3 [((0:Int),((e3 - (1:Int)),((2:Int),(1:Int))))]=0 then e3 else 0) (if mkErr e3 [((0:Int),((e3 - (1:Int)),((2:Int),(1:Int))))]=0 then mkW [((0:Int),((e3 - (1:Int)),((2:Int),(1:Int))))] else []) e3 d3.1∧True∧True∧(mkErr e3 [((0:Int),((e3 - (1:Int)),((1:Int),((1:Int) + y14))))])=(mkErr e3 [((0:Int),((e3 - (1:Int)),((1:Int),((1:Int) + y14))))])∧(mkErr e3 [((0:Int),((e3 - (1:Int)),((2:Int),(1:Int))))])=(mkErr e3 [((0:Int),((e3 - (1:Int)),((2:Int),(1:Int))))])∧(sbErr e3 d3.1 e3 d3.1)=(sbErr e3 d3.1 e3 d3.1)∧True)∧((e3=e3∧True∧(([]:List SV)=[]))∧((if mkErr e3 [((0:Int),((e3 - (1:Int)),((1:Int),((1:Int) + y14))))]=0 then e3 else 0)=(if mkErr e3 [((0:Int),((e3 - (1:Int)),((1:Int),((1:Int) + y14))))]=0 then e3 else 0)∧True∧(([]:List SV)=[]))∧((if mkErr e3 [((0:Int),((e3 - (1:Int)),((2:Int),(1:Int))))]=0 then e3 else 0)=(if mkErr e3 [((0:Int),((e3 - (1:Int)),((2:Int),(1:Int))))]=0 then e3 else 0)∧True∧(([]:List SV)=[]))∧(e3=e3∧True∧(([]:List SV)=[]))∧((if sbErr e3 d3.1 e3 d3.1=0 then e3 + e3 else 0)=(if sbErr e3 d3.1 e3 d3.1=0 then e3 + e3 else 0)∧True∧(([]:List SV)=[]))∧(d3.1=d3.1∧false=false)∧([((0:Int),((e3 - (1:Int)),((1:Int),((1:Int) + y14))))]=[((0:Int),((e3 - (1:Int)),((1:Int),((1:Int) + y14))))]∧false=false)∧((if mkErr e3 [((0:Int),((e3 - (1:Int)),((1:Int),((1:Int) + y14))))]=0 then mkW [((0:Int),((e3 - (1:Int)),((1:Int),((1:Int) + y14))))] else [])=(if mkErr e3 [((0:Int),((e3 - (1:Int)),((1:Int),((1:Int) + y14))))]=0 then mkW [((0:Int),((e3 - (1:Int)),((1:Int),((1:Int) + y14))))] else [])∧(if mkErr e3 [((0:Int),((e3 - (1:Int)),((1:Int),((1:Int) + y14))))]=0 then mkW [((0:Int),((e3 - (1:Int)),((1:Int),((1:Int) + y14))))] else []).isEmpty=(if mkErr e3 [((0:Int),((e3 - (1:Int)),((1:Int),((1:Int) + y14))))]=0 then mkW [((0:Int),((e3 - (1:Int)),((1:Int),((1:Int) + y14))))] else []).isEmpty)∧([((0:Int),((e3 - (1:Int)),((2:Int),(1:Int))))]=[((0:Int),((e3 - (1:Int)),((2:Int),(1:Int))))]∧false=false)∧((if mkErr e3 [((0:Int),((e3 - (1:Int)),((2:Int),(1:Int))))]=0 then mkW [((0:Int),((e3 - (1:Int)),((2:Int),(1:Int))))] else [])=(if mkErr e3 [((0:Int),((e3 - (1:Int)),((2:Int),(1:Int))))]=0 then mkW [((0:Int),((e3 - (1:Int)),((2:Int),(1:Int))))] else [])∧(if mkErr e3 [((0:Int),((e3 - (1:Int)),((2:Int),(1:Int))))]=0 then mkW [((0:Int),((e3 - (1:Int)),((2:Int),(1:Int))))] else []).isEmpty=(if mkErr e3 [((0:Int),((e3 - (1:Int)),((2:Int),(1:Int))))]=0 then mkW [((0:Int),((e3 - (1:Int)),((2:Int),(1:Int))))] else []).isEmpty)∧(d3.1=d3.1∧false=false)∧((weaveC (if mkErr e3 [((0:Int),((e3 - (1:Int)),((1:Int),((1:Int) + y14))))]=0 then e3 else 0) (if mkErr e3 [((0:Int),((e3 - (1:Int)),((1:Int),((1:Int) + y14))))]=0 then mkW [((0:Int),((e3 - (1:Int)),((1:Int),((1:Int) + y14))))] else []) e3 d3.1)=(weaveC (if mkErr e3 [((0:Int),((e3 - (1:Int)),((1:Int),((1:Int) + y14))))]=0 then e3 else 0) (if mkErr e3 [((0:Int),((e3 - (1:Int)),((1:Int),((1:Int) + y14))))]=0 then mkW [((0:Int),((e3 - (1:Int)),((1:Int),((1:Int) + y14))))] else []) e3 d3.1)∧(weaveC (if mkErr e3 [((0:Int),((e3 - (1:Int)),((1:Int),((1:Int) + y14))))]=0 then e3 else 0) (if mkErr e3 [((0:Int),((e3 - (1:Int)),((1:Int),((1:Int) + y14))))]=0 then mkW [((0:Int),((e3 - (1:Int)),((1:Int),((1:Int) + y14))))] else []) e3 d3.1).isEmpty=(weaveC (if mkErr e3 [((0:Int),((e3 - (1:Int)),((1:Int),((1:Int) + y14))))]=0 then e3 else 0) (if mkErr e3 [((0:Int),((e3 - (1:Int)),((1:Int),((1:Int) + y14))))]=0 then mkW [((0:Int),((e3 - (1:Int)),((1:Int),((1:Int) + y14))))] else []) e3 d3.1).isEmpty)∧(d3.1=d3.1∧false=false)∧((weaveC (if mkErr e3 [((0:Int),((e3 - (1:Int)),((2:Int),(1:Int))))]=0 then e3 else 0) (if mkErr e3 [((0:Int),((e3 - (1:Int)),((2:Int),(1:Int))))]=0 then mkW [((0:Int),((e3 - (1:Int)),((2:Int),(1:Int))))] else []) e3 d3.1)=(weaveC (if mkErr e3 [((0:Int),((e3 - (1:Int)),((2:Int),(1:Int))))]=0 then e3 else 0) (if mkErr e3 [((0:Int),((e3 - (1:Int)),((2:Int),(1:Int))))]=0 then mkW [((0:Int),((e3 - (1:Int)),((2:Int),(1:Int))))] else []) e3 d3.1)∧(weaveC (if mkErr e3 [((0:Int),((e3 - (1:Int)),((2:Int),(1:Int))))]=0 then e3 else 0) (if mkErr e3 [((0:Int),((e3 - (1:Int)),((2:Int),(1:Int))))]=0 then mkW [((0:Int),((e3 - (1:Int)),((2:Int),(1:Int))))] else []) e3 d3.1).isEmpty=(weaveC (if mkErr e3 [((0:Int),((e3 - (1:Int)),((2:Int),(1:Int))))]=0 then e3 else 0) (if mkErr e3 [((0:Int),((e3 - (1:Int)),((2:Int),(1:Int))))]=0 then mkW [((0:Int),((e3 - (1:Int)),((2:Int),(1:Int))))] else []) e3 d3.1).isEmpty)∧(d3.1=d3.1∧false=false)∧(d3.1=d3.1∧false=false)∧(d3.1=d3.1∧false=false)∧((sbR e3 d3.1 e3 d3.1)=(sbR e3 d3.1 e3 d3.1)∧(sbR e3 d3.1 e3 d3.1).isEmpty=(sbR e3 d3.1 e3 d3.1).isEmpty)∧True)))∧∀ (y16:Bool),y16=((sbErr e3 d3.1 e3 d3.1) != (0:Int))→(y16=true →
     (false=true∧(True))) ∧
    (y16=false →
     (d3.1.length ≤ 1000)∧(d3.1.length ≤ 1000)∧∀ (y17:Bool),y17=((mkErr e3 [((0:Int),((e3 - (1:Int)),((1:Int),((1:Int) + y14))))]) == (0:Int))→∀ (y18:Bool),y18=((mkErr e3 [((0:Int),((e3 - (1:Int)),((2:Int),(1:Int))))]) == (0:Int))→∀ (y19:Bool),y19=(y17 && y18)→∀ (y20:Bool),y20=(weaveErr (if mkErr e3 [((0:Int),((e3 - (1:Int)),((1:Int),((1:Int) + y14))))]=0 then e3 else 0) (if mkErr e3 [((0:Int),((e3 - (1:Int)),((1:Int),((1:Int) + y14))))]=0 then mkW [((0:Int),((e3 - (1:Int)),((1:Int),((1:Int) + y14))))] else []) e3 d3.1 == (0:Int))→∀ (y21:Bool),y21=(y19 && y20)→∀ (y22:Bool),y22=(weaveErr (if mkErr e3 [((0:Int),((e3 - (1:Int)),((2:Int),(1:Int))))]=0 then e3 else 0) (if mkErr e3 [((0:Int),((e3 - (1:Int)),((2:Int),(1:Int))))]=0 then mkW [((0:Int),((e3 - (1:Int)),((2:Int),(1:Int))))] else []) e3 d3.1 == (0:Int))→∀ (y23:Bool),y23=(y21 && y22)→∀ (y24:Bool),y24=((rfErr e3 d3.1) == (0:Int))→∀ (y25:Bool),y25=(y23 && y24)→(y25=true→(weaveC (if mkErr e3 [((0:Int),((e3 - (1:Int)),((1:Int),((1:Int) + y14))))]=0 then e3 else 0) (if mkErr e3 [((0:Int),((e3 - (1:Int)),((1:Int),((1:Int) + y14))))]=0 then mkW [((0:Int),((e3 - (1:Int)),((1:Int),((1:Int) + y14))))] else []) e3 d3.1).length ≤ 1000∧(sbR e3 d3.1 e3 d3.1).length ≤ 1000∧0 ≤ (if sbErr e3 d3.1 e3 d3.1=0 then e3 + e3 else 0)∧(if sbErr e3 d3.1 e3 d3.1=0 then e3 + e3 else 0) ≤ 60∧∀ x ∈ (sbR e3 d3.1 e3 d3.1),0 ≤ x∧x < 9223372036854775808)∧∀ (y26:Bool),y26=(y25 && (showB (weaveC (if mkErr e3 [((0:Int),((e3 - (1:Int)),((1:Int),((1:Int) + y14))))]=0 then e3 else 0) (if mkErr e3 [((0:Int),((e3 - (1:Int)),((1:Int),((1:Int) + y14))))]=0 then mkW [((0:Int),((e3 - (1:Int)),((1:Int),((1:Int) + y14))))] else []) e3 d3.1) (if sbErr e3 d3.1 e3 d3.1=0 then e3 + e3 else 0) (sbR e3 d3.1 e3 d3.1)))→(y26=true→(weaveC (if mkErr e3 [((0:Int),((e3 - (1:Int)),((2:Int),(1:Int))))]=0 then e3 else 0) (if mkErr e3 [((0:Int),((e3 - (1:Int)),((2:Int),(1:Int))))]=0 then mkW [((0:Int),((e3 - (1:Int)),((2:Int),(1:Int))))] else []) e3 d3.1).length ≤ 1000∧(rfR e3 d3.1).length ≤ 1000∧0 ≤ (if rfErr e3 d3.1=0 then rfN e3 else 0)∧(if rfErr e3 d3.1=0 then rfN e3 else 0) ≤ 60∧∀ x ∈ (rfR e3 d3.1),0 ≤ x∧x < 9223372036854775808)∧∀ (y27:Bool),y27=(y26 && (showB (weaveC (if mkErr e3 [((0:Int),((e3 - (1:Int)),((2:Int),(1:Int))))]=0 then e3 else 0) (if mkErr e3 [((0:Int),((e3 - (1:Int)),((2:Int),(1:Int))))]=0 then mkW [((0:Int),((e3 - (1:Int)),((2:Int),(1:Int))))] else []) e3 d3.1) (if rfErr e3 d3.1=0 then rfN e3 else 0) (rfR e3 d3.1)))→(y27=true→True)∧∀ (y28:Bool),y28=(y27 && true)→(y28=true∧(True)))) ∧
   (y15=false →
    (d3.1.length ≤ 1000)∧(d3.1.length ≤ 1000)∧∀ (y29:Bool),y29=((mkErr e3 [((0:Int),((e3 - (1:Int)),((1:Int),((1:Int) + y14))))]) == (0:Int))→∀ (y30:Bool),y30=((mkErr e3 [((0:Int),((e3 - (1:Int)),((2:Int),(1:Int))))]) == (0:Int))→∀ (y31:Bool),y31=(y29 && y30)→∀ (y32:Bool),y32=(weaveErr (if mkErr e3 [((0:Int),((e3 - (1:Int)),((1:Int),((1:Int) + y14))))]=0 then e3 else 0) (if mkErr e3 [((0:Int),((e3 - (1:Int)),((1:Int),((1:Int) + y14))))]=0 then mkW [((0:Int),((e3 - (1:Int)),((1:Int),((1:Int) + y14))))] else []) e3 d3.1 == (0:Int))→∀ (y33:Bool),y33=(y31 && y32)→∀ (y34:Bool),y34=(weaveErr (if mkErr e3 [((0:Int),((e3 - (1:Int)),((2:Int),(1:Int))))]=0 then e3 else 0) (if mkErr e3 [((0:Int),((e3 - (1:Int)),((2:Int),(1:Int))))]=0 then mkW [((0:Int),((e3 - (1:Int)),((2:Int),(1:Int))))] else []) e3 d3.1 == (0:Int))→∀ (y35:Bool),y35=(y33 && y34)→∀ (y36:Bool),y36=((rfErr e3 d3.1) == (0:Int))→∀ (y37:Bool),y37=(y35 && y36)→(y37=true→(weaveC (if mkErr e3 [((0:Int),((e3 - (1:Int)),((1:Int),((1:Int) + y14))))]=0 then e3 else 0) (if mkErr e3 [((0:Int),((e3 - (1:Int)),((1:Int),((1:Int) + y14))))]=0 then mkW [((0:Int),((e3 - (1:Int)),((1:Int),((1:Int) + y14))))] else []) e3 d3.1).length ≤ 1000∧d3.1.length ≤ 1000∧0 ≤ e3∧e3 ≤ 60∧∀ x ∈ d3.1,0 ≤ x∧x < 9223372036854775808)∧∀ (y38:Bool),y38=(y37 && (showB (weaveC (if mkErr e3 [((0:Int),((e3 - (1:Int)),((1:Int),((1:Int) + y14))))]=0 then e3 else 0) (if mkErr e3 [((0:Int),((e3 - (1:Int)),((1:Int),((1:Int) + y14))))]=0 then mkW [((0:Int),((e3 - (1:Int)),((1:Int),((1:Int) + y14))))] else []) e3 d3.1) e3 d3.1))→(y38=true→(weaveC (if mkErr e3 [((0:Int),((e3 - (1:Int)),((2:Int),(1:Int))))]=0 then e3 else 0) (if mkErr e3 [((0:Int),((e3 - (1:Int)),((2:Int),(1:Int))))]=0 then mkW [((0:Int),((e3 - (1:Int)),((2:Int),(1:Int))))] else []) e3 d3.1).length ≤ 1000∧(rfR e3 d3.1).length ≤ 1000∧0 ≤ (if rfErr e3 d3.1=0 then rfN e3 else 0)∧(if rfErr e3 d3.1=0 then rfN e3 else 0) ≤ 60∧∀ x ∈ (rfR e3 d3.1),0 ≤ x∧x < 9223372036854775808)∧∀ (y39:Bool),y39=(y38 && (showB (weaveC (if mkErr e3 [((0:Int),((e3 - (1:Int)),((2:Int),(1:Int))))]=0 then e3 else 0) (if mkErr e3 [((0:Int),((e3 - (1:Int)),((2:Int),(1:Int))))]=0 then mkW [((0:Int),((e3 - (1:Int)),((2:Int),(1:Int))))] else []) e3 d3.1) (if rfErr e3 d3.1=0 then rfN e3 else 0) (rfR e3 d3.1)))→(y39=true→True)∧∀ (y40:Bool),y40=(y39 && true)→(y40=true∧(True))))) d30
def cx_law03_TieGroups:Cx:=⟨[(32,(.pair (.i .i64) (.pair (.i .i64) (.pair (.i .i64) (.i .i64)))))],[(49,s_law03_Loom_design),(54,s_law03_group),(15,s_tie_Make),(20,s_law03_ours),(21,s_tie_Weave),(55,s_point_Beside),(56,s_point_Reflect),(57,s_law03_shows),(14,s_law03_known)],143,[],0,[],[],[],[5,7,8,10,11,13,14,15,16,17,18,19,64,76,102],true,[],[],[]⟩
def lp_law03_TieGroups (h8:Int) (ws:List Int) (rs:List Int) (ti:Int):List (Nat × LoopAnn):=[(0,⟨Int,(List Int) × Int,[1,5,6],fun e x=>[.val (.i .u8) ti,.box 5 0,.val (.i .i64) x.2],fun e x=>[(5,.slot 5,.cells [.val (.i .i64) e,.lst 24] (some 36)),(24,.cell 5 1,.lst 3 (.i .i64) x.1 false)]⟩)]
set_option maxRecDepth 100000 in
theorem vq_law03_TieGroups (d:(Int × List Int × List Int) × Int):gwp (cx_law03_TieGroups) (lp_law03_TieGroups d.1.1 d.1.2.1 d.1.2.2 d.2) c10 0 (gend [.tmp 4] (res_law03_TieGroups d) (obs_law03_TieGroups d)) (gstart 143 (AL.can al_law03_TieGroups d))=vc_law03_TieGroups d.1.1 d.1.2.1 d.1.2.2 d.2:=by kernel_rfl
abbrev Ok_law03_TieGroups:Prop:=OkC Tryz.prog 10 s_law03_TieGroups
theorem mk_law03_TieGroups (h:∀ (h8:Int) (ws:List Int) (rs:List Int) (ti:Int),(lOk h8 ws rs∧0 ≤ ti∧ti ≤ 255)→vc_law03_TieGroups h8 ws rs ti):OkC Tryz.prog 10 s_law03_TieGroups :=
 okC_vc fun10 mixed (C:=cx_law03_TieGroups) (V:=fun (d:(Int × List Int × List Int) × Int)=>vc_law03_TieGroups d.1.1 d.1.2.1 d.1.2.2 d.2) ⟨(.cons ok_law03_Loom_design (.cons ok_law03_group (.cons ok_tie_Make (.cons ok_law03_ours (.cons ok_tie_Weave (.cons ok_point_Beside (.cons ok_point_Reflect (.cons ok_law03_shows (.cons ok_law03_known .nil))))))))),XsOk.nil,ItsOk.nil,YlOk.nil,IysOk.nil⟩ (vq_law03_TieGroups) fun d hp=>h d.1.1 d.1.2.1 d.1.2.2 d.2 hp
theorem gmin_le {a b:Int}:gmin a b ≤ a∧gmin a b ≤ b∧(gmin a b=a ∨ gmin a b=b):=by unfold gmin; split <;> omega
theorem weave_ok {n:Int} {S xs:List Int} (h1:1 ≤ n) (h2:n ≤ 24) (s1:S ≠ []) (s2:S.length ≤ 96) (s3:∀ x ∈ S,0 ≤ x∧x < n) (x1:xs ≠ []) (x2:xs.length ≤ 60) (x3:∀ x ∈ xs,0 ≤ x∧x < 2 ^ n.toNat):weaveErr n S n xs=0∧pointErr n xs=0:=by
 have i1:inI n 1 24=true:=by simp [inI,h1,h2]
 have a1:S.any (fun x=>!inI x 0 (n - 1))=false:=by
  rw [List.any_eq_false]
  intro x hx
  have:=s3 x hx
  simp [inI]
  omega
 have a2:xs.any (fun x=>!inI x 0 (2 ^ n.toNat - 1))=false:=by
  rw [List.any_eq_false]
  intro x hx
  have:=x3 x hx
  simp only [inI,Bool.not_eq_true',Bool.and_eq_false_iff,decide_eq_false_iff_not]
  omega
 have l1:¬ 96 < S.length:=by omega
 have l2:¬ 60 < xs.length:=by omega
 have t:tieErr n S=0:=by
  unfold tieErr
  rw [i1,a1,if_neg (by simp),if_neg l1,if_neg (by simpa using s1),if_neg (by simp)]
 have p:pointErr n xs=0:=by
  unfold pointErr
  rw [i1,a2,if_neg (by simp),if_neg l2,if_neg (by simpa using x1),if_neg (by simp)]
 exact ⟨by simp [weaveErr,t,p],p⟩
theorem show_weave {n:Int} {S xs ys:List Int} {m:Int} (he:weaveErr n S n xs=0) (hm:(S.length:Int)=m) (hl:ys.length=xs.length) (hb:∀ i,i < xs.length→∀ w,w < S.length→(ys.getD i 0).toNat.testBit w=(xs.getD i 0).toNat.testBit (S.getD w 0).toNat):showB (weaveC n S n xs) m ys=true:=by
 have hC:weaveC n S n xs=xs.map (pickS S):=by simp [weaveC,he]
 rw [hC,showB_iff,rightB_iff]
 refine ⟨⟨fun s hs=>?_,by rw [List.length_map,hl]⟩,fun i hi w hw=>?_⟩
 ·simp only [List.mem_map] at hs
  obtain ⟨r,_,rfl⟩:=hs
  rw [pickS_length]; exact hm
 ·rw [List.length_map] at hi
  have hw:w < S.length:=by omega
  have e1:(xs.map (pickS S)).getD i []=pickS S xs[i]:=by rw [getD_nat (by rw [List.length_map]; exact hi),List.getElem_map]
  rw [hb i hi w hw,e1,getD_nat (by rw [pickS_length]; exact hw),getD_nat hi,getD_nat hw]
  simp only [pickS,List.getElem_map]
  cases (xs[i]).toNat.testBit (S[w]).toNat <;> rfl
theorem mkW_single (x:Grp):mkW [x]=mkOne x:=by simp [mkW]
theorem hN_n {n:Int} (h:1 ≤ n):hN 0 (n - 1)=n.toNat - 1:=by unfold hN; omega
theorem hAt_up {n:Int} (h:1 ≤ n) (k:Nat):hAt 0 (n - 1) k=(k:Int):=by
 unfold hAt; rw [if_neg (by omega)]; omega
theorem strK_up {n:Int} (h:1 ≤ n) {m w:Nat} (hw:w < m):(strK 0 (n - 1) m).getD w 0=(w:Int):=by
 rw [getD_nat (by rw [strK_length]; exact hw)]
 simp [strK,hAt_up h]
theorem hooks_one {n:Int} (h:1 ≤ n):hooksG 0 (n - 1) 1=strK 0 (n - 1) n.toNat:=by
 unfold hooksG
 rw [if_neg (by omega),List.append_nil,hN_n h]
 congr 1; omega
theorem hooks_two {n:Int} (h:1 ≤ n):(hooksG 0 (n - 1) 2).length=(rfN n).toNat∧∀ w,w < (rfN n).toNat→(hooksG 0 (n - 1) 2).getD w 0=Int.tmod (gmin (w:Int) (gmax 0 (rfN n - w))) n:=by
 have e:hooksG 0 (n - 1) 2=strK 0 (n - 1) n.toNat++backK 0 (n - 1) (n.toNat - 1) (n.toNat - 2):=by
  unfold hooksG
  rw [if_pos rfl,hN_n h]
  rw [show n.toNat - 1 + 1=n.toNat by omega,show n.toNat - 1 - 1=n.toNat - 2 by omega]
 have eN:rfN n=if 2 ≤ n then n + (n - 2) else n:=by
  unfold rfN gmax; split <;> split <;> omega
 rw [e]
 refine ⟨by rw [List.length_append,strK_length,backK_length,eN]; split <;> omega,fun w hw=>?_⟩
 rw [eN] at hw ⊢
 by_cases h1:w < n.toNat
 ·rw [List.getD_eq_getElem?_getD,List.getElem?_append_left (by rw [strK_length]; exact h1),←List.getD_eq_getElem?_getD,strK_up h h1]
  have hg:gmin (w:Int) (gmax 0 ((if 2 ≤ n then n + (n - 2) else n) - w))=(w:Int):=by
   unfold gmin gmax; split <;> split <;> split <;> omega
  rw [hg,Int.tmod_eq_of_lt (by omega) (by omega)]
 ·have h2:2 ≤ n:=by
   by_cases h2:2 ≤ n
   ·exact h2
   ·rw [if_neg h2] at hw; omega
  rw [if_pos h2] at hw ⊢
  have hg:gmin (w:Int) (gmax 0 (n + (n - 2) - w))=n + (n - 2) - w:=by
   unfold gmin gmax; split <;> split <;> omega
  rw [hg,Int.tmod_eq_of_lt (by omega) (by omega)]
  rw [List.getD_eq_getElem?_getD,List.getElem?_append_right (by rw [strK_length]; omega),strK_length,←List.getD_eq_getElem?_getD,getD_nat (by rw [backK_length]; omega)]
  simp only [backK,List.getElem_map,List.getElem_range,hAt_up h]
  omega
theorem mem_getD {l:List Int} {P:Int→Prop} (h:∀ w,w < l.length→P (l.getD w 0)):∀ x ∈ l,P x:=by
 intro x hx
 obtain ⟨i,hi,rfl⟩:=List.getElem_of_mem hx
 have:=h i hi
 rwa [getD_nat hi] at this
theorem straight_at {n k:Int} (h:1 ≤ n) (hk:k=1 ∨ k=2):(mkW [(0,(n - 1,(1,k)))]).length=(n * k).toNat∧∀ w,w < (n * k).toNat→(mkW [(0,(n - 1,(1,k)))]).getD w 0=((w % n.toNat:Nat):Int):=by
 rw [mkW_single]
 have e:mkOne (0,(n - 1,(1,k)))=repL (strK 0 (n - 1) n.toNat) k.toNat:=by
  unfold mkOne; dsimp only; rw [hooks_one h]
 rw [e]
 rcases hk with rfl | rfl
 ·have e1:repL (strK 0 (n - 1) n.toNat) (1:Int).toNat=strK 0 (n - 1) n.toNat:=by simp [repL]
  rw [e1,strK_length]
  refine ⟨by omega,fun w hw=>?_⟩
  rw [strK_up h (by omega),Nat.mod_eq_of_lt (by omega)]
 ·have e1:repL (strK 0 (n - 1) n.toNat) (2:Int).toNat=strK 0 (n - 1) n.toNat++strK 0 (n - 1) n.toNat:=by simp [repL,List.replicate]
  rw [e1,List.length_append,strK_length]
  refine ⟨by omega,fun w hw=>?_⟩
  by_cases h1:w < n.toNat
  ·rw [List.getD_eq_getElem?_getD,List.getElem?_append_left (by rw [strK_length]; exact h1),←List.getD_eq_getElem?_getD,strK_up h h1,Nat.mod_eq_of_lt h1]
  ·rw [List.getD_eq_getElem?_getD,List.getElem?_append_right (by rw [strK_length]; omega),strK_length,←List.getD_eq_getElem?_getD,strK_up h (by omega),Nat.mod_eq_sub_mod (by omega),Nat.mod_eq_of_lt (by omega)]
theorem mkErr_one {n c k:Int} (h1:1 ≤ n) (h2:n ≤ 12) (hc:c=1 ∨ c=2) (hk:1 ≤ k∧k ≤ 2):mkErr n [(0,(n - 1,(c,k)))]=0:=by
 have i1:inI n 1 24=true:=by simp [inI]; omega
 have hb:mkBad n (0,(n - 1,(c,k)))=false:=by
  simp [mkBad,inI]; omega
 have hl:=hooksG_length (wy:=c) (show (0:Int) ≤ 0∧(0:Int) < 24∧0 ≤ n - 1∧n - 1 < 24 by omega)
 have hlen:(mkW [(0,(n - 1,(c,k)))]).length ≤ 96:=by
  rw [mkW_single]
  show (repL (hooksG 0 (n - 1) c) k.toNat).length ≤ 96
  rw [repL_length]
  have:(hooksG 0 (n - 1) c).length * k.toNat ≤ 48 * 2:=Nat.mul_le_mul hl.2 (by omega)
  omega
 have hs:mkAt n [(0,(n - 1,(c,k)))]=none:=mkAt_none fun j hj=>by
  have:j=0:=by simp at hj; omega
  subst this
  simp only [mkStop,List.getD_cons_zero,hb,Bool.false_or,decide_eq_false_iff_not]
  rw [List.take_of_length_le (by simp)]
  omega
 rw [(mkErr_mkI i1 (by simp) (by simp)).1,hs]
theorem ok_law03_TieGroups:Ok_law03_TieGroups:=mk_law03_TieGroups fun h8 ws rs ti h=>by
 obtain ⟨hL,ht1,ht2⟩:=h
 have hk:=hkN_range (m:=16) (by omega) hL.1
 unfold vc_law03_TieGroups; (try delta lI gD sT I64)
 have hN:(rowsN (hkN 16 h8) 12 rs).length=if rs=[] then 1 else min 12 rs.length:=rowsN_len
 have hN1:1 ≤ (rowsN (hkN 16 h8) 12 rs).length∧(rowsN (hkN 16 h8) 12 rs).length ≤ 12:=by
  rw [hN]
  split
  ·omega
  ·rename_i hne
   have:0 < rs.length:=List.length_pos_iff.2 hne
   omega
 have hR:∀ x ∈ rowsN (hkN 16 h8) 12 rs,0 ≤ x∧x < 9223372036854775808:=by
  intro x hx
  have hp:=pow_bound hk.1 (show hkN 16 h8 ≤ 24 by omega)
  unfold rowsN at hx
  split at hx
  ·rw [List.mem_singleton.1 hx]
   have h1:=Int.emod_nonneg 21 (show (2:Int) ^ (hkN 16 h8).toNat ≠ 0 by omega)
   have h2:=Int.emod_lt_of_pos 21 (show 0 < (2:Int) ^ (hkN 16 h8).toNat by omega)
   omega
  ·simp only [List.mem_map] at hx
   obtain ⟨y,_,rfl⟩:=hx
   have h1:=Int.emod_nonneg y (show (2:Int) ^ (hkN 16 h8).toNat ≠ 0 by omega)
   have h2:=Int.emod_lt_of_pos y (show 0 < (2:Int) ^ (hkN 16 h8).toNat by omega)
   omega
 generalize rowsN (hkN 16 h8) 12 rs=R at hN1 hR ⊢
 refine ⟨hL,?_⟩
 intro n hn
 have hg:=gmin_le (a:=12) (b:=hkN 16 h8)
 rw [←hn] at hg
 have n1:1 ≤ n:=by omega
 have n2:n ≤ 12:=by omega
 clear hn hg
 have hp:=pow_bound n1 (show n ≤ 24 by omega)
 refine ⟨n,(R,0),(by and_intros <;> first | rfl | trivial | simp),?_⟩
 refine LoopP.count2 R.length (fun i xs=>xs.length=R.length∧(∀ x ∈ xs,0 ≤ x∧x < 9223372036854775808)∧∀ k,k < i→0 ≤ xs.getD k 0∧xs.getD k 0 < 2 ^ n.toNat) ⟨rfl,hR,fun k hk=>by omega⟩ fun i xs hi hJ q hq=>?_
 obtain ⟨hxl,hx1,hJ⟩:=hJ
 dsimp only
 simp only [Int.toNat_natCast,InK_i64,InK_u64,shl_one (show 0 ≤ n by omega) (show n ≤ 62 by omega)]
 intro y10 hy10
 refine ⟨fun ht=>?_,fun hf=>?_⟩
 ·rw [ht] at hy10
  have hlt:i < R.length:=by have:=of_decide_eq_true hy10.symm; omega
  have hxi:=hx1 _ (getD_mem (show i < xs.length by omega))
  have hm:=and_mask hxi.1 hxi.2 n1 (show n ≤ 24 by omega)
  rw [shl_one (show 0 ≤ n by omega) (show n ≤ 62 by omega)] at hm
  refine ⟨by omega,by omega,?_⟩
  intro y11 hy11
  refine ⟨by omega,by omega,by omega,?_⟩
  intro y12 hy12
  refine ⟨by omega,?_⟩
  intro y13 hy13
  rw [hy11,hy12,hm] at hy13
  have h1:=Int.emod_nonneg (xs.getD i 0) (show (2:Int) ^ n.toNat ≠ 0 by omega)
  have h2:=Int.emod_lt_of_pos (xs.getD i 0) (show 0 < (2:Int) ^ n.toNat by omega)
  rw [←hy13] at h1 h2
  refine ⟨by omega,by omega,by omega,(xs.set i y13,(i:Int) + 1),(by and_intros <;> first | rfl | trivial | simp),hq _ hlt ⟨by rw [List.length_set]; exact hxl,fun x hx=>?_,fun k hk=>?_⟩⟩
  ·rcases List.mem_or_eq_of_mem_set hx with hx | rfl
   ·exact hx1 x hx
   ·omega
  ·rw [List.getD_eq_getElem?_getD,List.getElem?_set]
   by_cases hki:i=k
   ·subst hki
    rw [if_pos rfl,if_pos (by omega)]
    exact ⟨h1,h2⟩
   ·rw [if_neg hki,←List.getD_eq_getElem?_getD]
    exact hJ k (by omega)
 ·rw [hf] at hy10
  have hir:i=R.length:=by have:=of_decide_eq_false hy10.symm; omega
  have hx3:∀ x ∈ xs,0 ≤ x∧x < 2 ^ n.toNat:=mem_getD fun w hw=>hJ w (by omega)
  have hx2:1 ≤ xs.length∧xs.length ≤ 12:=by omega
  clear hq hJ hy10 hi hx1 hR hN1 hN hxl hir
  have hne:xs ≠ []:=fun e=>by rw [e] at hx2; simp at hx2
  refine ⟨by omega,by omega,?_⟩
  intro y14 hy14
  have ht3:y14=0 ∨ y14=1:=by
   have a1:=Int.tmod_nonneg 2 ht1
   have a2:=Int.tmod_lt_of_pos ti (show (0:Int) < 2 by omega)
   omega
  have E1:=mkErr_one (c:=1) (k:=1 + y14) n1 n2 (.inl rfl) (by omega)
  have E2:=mkErr_one (c:=2) (k:=1) n1 n2 (.inr rfl) (by omega)
  obtain ⟨s1,s2⟩:=straight_at (k:=1 + y14) n1 (by omega)
  have hP:mkW [(0,(n - 1,(2,1)))]=hooksG 0 (n - 1) 2:=by
   rw [mkW_single]; show repL (hooksG 0 (n - 1) 2) (1:Int).toNat=_; simp [repL]
  obtain ⟨q1,q2⟩:=hooks_two n1
  rw [←hP] at q1 q2
  simp only [E1,E2,if_true]
  have hpn:0 < n.toNat:=by omega
  have eR:(rfN n).toNat=(if 2 ≤ n then n + (n - 2) else n).toNat∧n ≤ rfN n∧rfN n ≤ 22:=by
   unfold rfN gmax; split <;> split <;> omega
  have lS:(mkW [(0,(n - 1,(1,1 + y14)))]).length ≤ 24∧1 ≤ (mkW [(0,(n - 1,(1,1 + y14)))]).length:=by
   rw [s1]
   rcases ht3 with rfl | rfl <;> omega
  have lP:(mkW [(0,(n - 1,(2,1)))]).length ≤ 24∧1 ≤ (mkW [(0,(n - 1,(2,1)))]).length:=by rw [q1]; omega
  have eS:∀ x ∈ mkW [(0,(n - 1,(1,1 + y14)))],0 ≤ x∧x < n:=mem_getD fun w hw=>by
   rw [s2 w (by omega)]
   have:=Nat.mod_lt w hpn
   omega
  have eP:∀ x ∈ mkW [(0,(n - 1,(2,1)))],0 ≤ x∧x < n:=mem_getD fun w hw=>by
   rw [q2 w (by omega)]
   have hg:0 ≤ gmin (w:Int) (gmax 0 (rfN n - w)):=by unfold gmin gmax; split <;> split <;> omega
   exact ⟨Int.tmod_nonneg _ hg,Int.tmod_lt_of_pos _ (by omega)⟩
  obtain ⟨W1,W3⟩:=weave_ok n1 (show n ≤ 24 by omega) (fun e=>by rw [e] at lS; simp at lS) (show (mkW [(0,(n - 1,(1,1 + y14)))]).length ≤ 96 by omega) eS hne (by omega) hx3
  obtain ⟨W2,_⟩:=weave_ok n1 (show n ≤ 24 by omega) (fun e=>by rw [e] at lP; simp at lP) (show (mkW [(0,(n - 1,(2,1)))]).length ≤ 96 by omega) eP hne (by omega) hx3
  have RF:rfErr n xs=0:=by
   have:¬ 24 < rfN n:=by omega
   simp [rfErr,W3,this]
  have SB:sbErr n xs n xs=0:=by
   have:¬ 24 < n + n:=by omega
   simp [sbErr,W3,this]
  have rfR':rfR n xs=madeR xs.length (rfN n).toNat (rfP n xs (rfN n)):=by simp [rfR,RF]
  have sbR':sbR n xs n xs=sbK n xs xs xs.length:=by simp [sbR,SB]
  have eq1:∀ i,i < xs.length→Int.tmod (i:Int) (xs.length:Int)=i:=fun i hi=>by rw [tmodN,Nat.mod_eq_of_lt hi]
  have shP:showB (weaveC n (mkW [(0,(n - 1,(2,1)))]) n xs) (rfN n) (rfR n xs)=true:=by
   refine show_weave W2 (by rw [q1]; omega) (by rw [rfR',madeR_length]) fun i hi w hw=>?_
   rw [rfR',madeR_getD hi,Int.toNat_natCast,madeV_bit (by omega),q2 w (by omega)]
   simp only [rfP,eq1 i hi,Int.toNat_natCast]
  have sbL:(sbR n xs n xs).length=xs.length:=by rw [sbR']; simp [sbK]
  have rfL:(rfR n xs).length=xs.length:=by rw [rfR',madeR_length]
  have sbG:∀ i,i < xs.length→(sbR n xs n xs).getD i 0=(((xs.getD i 0).toNat ||| ((xs.getD i 0).toNat <<< n.toNat):Nat):Int):=fun i hi=>by
   rw [sbR',getD_nat (by simp [sbK]; exact hi)]; simp [sbK]
  have hbits:∀ i,i < xs.length→(xs.getD i 0).toNat < 2 ^ n.toNat:=fun i hi=>by
   have:=hx3 _ (getD_mem hi)
   have e2:((2:Int) ^ n.toNat)=((2 ^ n.toNat:Nat):Int):=by rw [Int.natCast_pow]; rfl
   rw [e2] at this
   omega
  have c1:∀ x ∈ xs,0 ≤ x∧x < 9223372036854775808:=fun x hx=>by have:=hx3 x hx; omega
  have c2:∀ x ∈ sbR n xs n xs,0 ≤ x∧x < 9223372036854775808:=mem_getD fun w hw=>by
   rw [sbG w (by omega)]
   have h24:(xs.getD w 0).toNat < 2 ^ 24:=Nat.lt_of_lt_of_le (hbits w (by omega)) (Nat.pow_le_pow_right (by omega) (by omega))
   have hsl:=shl_bits (x:=(xs.getD w 0).toNat) (n:=n.toNat) h24 (by omega)
   have:=or_lt63 (x:=(xs.getD w 0).toNat) (y:=(xs.getD w 0).toNat <<< n.toNat) (by omega) hsl
   generalize ((xs.getD w 0).toNat ||| (xs.getD w 0).toNat <<< n.toNat)=z at this
   omega
  have c3:∀ x ∈ rfR n xs,0 ≤ x∧x < 9223372036854775808:=mem_getD fun w hw=>by
   rw [rfR',madeR_getD (by omega)]
   have h1:=madeV_lt (rfN n).toNat (fun j=>rfP n xs (rfN n) ((w:Int),(j:Int)))
   have h2:2 ^ (rfN n).toNat ≤ 2 ^ 24:=Nat.pow_le_pow_right (by omega) (by omega)
   omega
  have cl:∀ S,(weaveC n S n xs).length ≤ 1000:=fun S=>by have:=weaveC_len (hk:=n) (lw:=S) (hd:=n) (rows:=xs); omega
  have b1:-9223372036854775808 ≤ n - 1∧n - 1 ≤ 9223372036854775807:=by omega
  have l1:xs.length ≤ 1000:=by omega
  have l2:xs.length ≤ 110:=by omega
  have l3:(mkW [(0,(n - 1,(1,1 + y14)))]).length ≤ 110:=by omega
  have l4:(mkW [(0,(n - 1,(2,1)))]).length ≤ 110:=by omega
  have l5:(sbR n xs n xs).length ≤ 1000:=by omega
  have l6:(rfR n xs).length ≤ 1000:=by omega
  have b2:0 ≤ n∧n ≤ 60:=by omega
  have b3:0 ≤ n + n∧n + n ≤ 60:=by omega
  have b4:0 ≤ rfN n∧rfN n ≤ 60:=by omega
  clear rfR' sbR'
  rcases ht3 with rfl | rfl
  ·have sh1:showB (weaveC n (mkW [(0,(n - 1,(1,1 + 0)))]) n xs) n xs=true:=by
    refine show_weave W1 (by rw [s1]; omega) rfl fun i hi w hw=>?_
    rw [s2 w (by omega),Nat.mod_eq_of_lt (by omega)]
    simp
   generalize mkW [(0,(n - 1,(1,1 + 0)))]=S at *
   generalize mkW [(0,(n - 1,(2,1)))]=P at *
   generalize rfR n xs=X at *
   generalize sbR n xs n xs=Y at *
   simp only [W1,W2,RF,SB,sh1,b1,b2,l1,l2,l3,l4,l5,l6,cl,List.isEmpty_iff,List.length_singleton,true_and,and_true,beq_iff_eq,bne_iff_ne,ne_eq,beq_eq_false_iff_ne,bne_eq_false_iff_eq,forall_eq,false_implies,Bool.false_eq_true,Bool.and_self,Bool.and_true,implies_true,forall_const,not_true_eq_false]
   and_intros
   all_goals try first | (exact fun h=>h) | omega | (intro h; cases h; done)
   intro _
   simp only [if_true,shP]
   exact ⟨c1,⟨b4.1,b4.2,c3⟩,rfl⟩
  ·have sh2:showB (weaveC n (mkW [(0,(n - 1,(1,1 + 1)))]) n xs) (n + n) (sbR n xs n xs)=true:=by
    refine show_weave W1 (by rw [s1]; omega) sbL fun i hi w hw=>?_
    rw [s2 w (by omega),sbG i hi,Int.toNat_natCast,Int.toNat_natCast,Nat.testBit_or,Nat.testBit_shiftLeft]
    by_cases h1:w < n.toNat
    ·rw [Nat.mod_eq_of_lt h1]
     simp [show ¬ n.toNat ≤ w by omega]
    ·rw [Nat.mod_eq_sub_mod (by omega),Nat.mod_eq_of_lt (by omega),Nat.testBit_lt_two_pow (Nat.lt_of_lt_of_le (hbits i hi) (Nat.pow_le_pow_right (by omega) (by omega)))]
     simp [show n.toNat ≤ w by omega]
   generalize mkW [(0,(n - 1,(1,1 + 1)))]=S at *
   generalize mkW [(0,(n - 1,(2,1)))]=P at *
   generalize rfR n xs=X at *
   generalize sbR n xs n xs=Y at *
   simp only [W1,W2,RF,SB,b1,b2,l1,l2,l3,l4,l5,l6,cl,List.isEmpty_iff,List.length_singleton,true_and,and_true,beq_iff_eq,bne_iff_ne,ne_eq,beq_eq_false_iff_ne,bne_eq_false_iff_eq,forall_eq,false_implies,Bool.false_eq_true,Bool.and_self,Bool.and_true,implies_true,forall_const,not_true_eq_false]
   and_intros
   all_goals try first | (exact fun h=>h) | omega | (intro h; cases h; done)
   intro _
   simp only [if_true,shP,sh2]
   exact ⟨fun h=>h,fun h=>h,fun h=>h,fun h=>h,⟨b3.1,b3.2,c2⟩,fun _=>⟨b4.1,b4.2,c3⟩,rfl⟩
end Go.Proofs.Tryz
set_option linter.unusedVariables false
namespace Go.Proofs.Tryz
open Go Go.V Go.Proofs
theorem u8s_of {l:List Int} (h:KWf (.list (.i .u8)) l):u8s l:=fun x hx=>(InK_u8 x).1 (h.2 x hx)
theorem u16s_of {l:List Int} (h:KWf (.list (.i .u16)) l):u16s l:=fun x hx=>(InK_u16 x).1 (h.2 x hx)
theorem grpPre_of {x:(Int × List Int × List Int) × Int} (h:AWf [.pair (.i .u8) (.pair (.list (.i .u8)) (.list (.i .u16))),.i .u8] x):lOk x.1.1 x.1.2.1 x.1.2.2∧0 ≤ x.2∧x.2 ≤ 255:=by
 obtain ⟨⟨h1,h2,h4⟩,h3⟩:=h
 have h1:=(InK_u8 x.1.1).1 h1
 have h3:=(InK_u8 x.2).1 h3
 exact ⟨⟨h1.1,h1.2,u8s_of h2,u16s_of h4⟩,h3.1,h3.2⟩
end Go.Proofs.Tryz