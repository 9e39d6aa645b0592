/- A framework for walks, contracts of functions, and their proofs: part 6. -/
import Derived.Test.YtfgcglmakclnkaaGreatDoorR5
set_option linter.unusedVariables false
namespace Go.Proofs.Tryz
open Go Go.V Go.Proofs
def hAt (fi la : Int) (k : Nat) : Int:=if la < fi then fi - k else fi + k
def hN (fi la : Int) : Nat:=(la - fi).natAbs
def strK (fi la : Int) (n : Nat) : List Int:=(List.range n).map fun k=>hAt fi la k
def backK (fi la : Int) (m : Nat) (n : Nat) : List Int:=(List.range n).map fun k=>hAt fi la (m - 1 - k)
def hooksG (fi la wy : Int) : List Int:=strK fi la (hN fi la + 1) ++ (if wy = 2 then backK fi la (hN fi la) (hN fi la - 1) else [])
abbrev Grp:=Int × Int × Int × Int
def mkOne (x : Grp) : List Int:=repL (hooksG x.1 x.2.1 x.2.2.1) x.2.2.2.toNat
def mkW (g : List Grp) : List Int:=(g.map mkOne).flatten
def mkBad (hk : Int) (x : Grp) : Bool:=!inI x.1 0 (hk - 1) || !inI x.2.1 0 (hk - 1) || !inI x.2.2.1 1 2 || !inI x.2.2.2 1 8
def mkStop (hk : Int) (g : List Grp) (i : Nat) : Bool:=mkBad hk (g.getD i (0,(0,(0,0)))) || decide (96 < (mkW (g.take (i + 1))).length)
def mkAt (hk : Int) (g : List Grp) : Option Nat:=(List.range g.length).find? (mkStop hk g)
def mkErr (hk : Int) (g : List Grp) : Int:=if !inI hk 1 24 then 2 else if 8 < g.length then 5 else if g.length = 0 then 7 else match mkAt hk g with | none=>0 | some i=>if mkBad hk (g.getD i (0,(0,(0,0)))) then 2 else 8
def mkI (hk : Int) (g : List Grp) : Int:=if !inI hk 1 24 || decide (8 < g.length) then 0 else match mkAt hk g with | none=>0 | some i=>(i : Int)
theorem strK_succ (fi la : Int) (n : Nat) : strK fi la (n + 1) = strK fi la n ++ [hAt fi la n]:=by
 simp only [strK,List.range_succ,List.map_append,List.map_cons,List.map_nil]
theorem backK_succ (fi la : Int) (m n : Nat) : backK fi la m (n + 1) = backK fi la m n ++ [hAt fi la (m - 1 - n)]:=by
 simp only [backK,List.range_succ,List.map_append,List.map_cons,List.map_nil]
theorem strK_length (fi la : Int) (n : Nat) : (strK fi la n).length = n:=by simp [strK]
theorem backK_length (fi la : Int) (m n : Nat) : (backK fi la m n).length = n:=by simp [backK]
theorem strK_at {fi la : Int} {n k : Nat} (h : k < n) (t : List Int) : (strK fi la n ++ t).getD k 0 = hAt fi la k:=by
 rw [List.getD_eq_getElem?_getD,List.getElem?_append_left (by rw [strK_length]; exact h)]
 simp [strK,h]
theorem hAt_end {fi la : Int} {k : Nat} (hk : k ≤ hN fi la) : hAt fi la k = la ↔ k = hN fi la:=by
 unfold hAt hN at *; split <;> omega
theorem hAt_first {fi la : Int} {k : Nat} : hAt fi la k = fi ↔ k = 0:=by
 unfold hAt; split <;> omega
theorem hooksG_length {fi la wy : Int} (h : 0 ≤ fi ∧ fi < 24 ∧ 0 ≤ la ∧ la < 24) : 0 < (hooksG fi la wy).length ∧ (hooksG fi la wy).length ≤ 48:=by
 have : hN fi la ≤ 24:=by unfold hN; omega
 unfold hooksG
 split <;> simp only [List.length_append,strK_length,backK_length,List.length_nil] <;> omega
theorem mkW_take {g : List Grp} {i : Nat} (h : i < g.length) : mkW (g.take (i + 1)) = mkW (g.take i) ++ mkOne (g.getD i (0,(0,(0,0)))):=by
 rw [take_succ_eq h,getD_nat h]
 simp only [mkW,List.map_append,List.flatten_append,List.map_cons,List.map_nil,List.flatten_cons,List.flatten_nil,List.append_nil]
theorem mkAt_some {hk : Int} {g : List Grp} {i : Nat} (h : i < g.length) (hs : mkStop hk g i = true) (hJ : ∀ j,j < i → mkStop hk g j = false) : mkAt hk g = some i :=
 List.find?_range_eq_some.2 ⟨hs,by simpa using h,fun j hj=>by simpa using hJ j hj⟩
theorem mkAt_none {hk : Int} {g : List Grp} (hJ : ∀ j,j < g.length → mkStop hk g j = false) : mkAt hk g = none:=by
 simp only [mkAt,List.find?_range_eq_none,Bool.not_eq_true']; exact hJ
theorem mkLen {hk : Int} {g : List Grp} {i : Nat} (h : i ≤ g.length) (hJ : ∀ j,j < i → mkStop hk g j = false) : (mkW (g.take i)).length ≤ 96:=by
 cases i with
 | zero=>simp [mkW]
 | succ i =>
  have:=hJ i (by omega)
  simp only [mkStop,Bool.or_eq_false_iff,decide_eq_false_iff_not] at this
  omega
theorem mkErr_mkI {hk : Int} {g : List Grp} (h1 : inI hk 1 24 = true) (h2 : ¬ 8 < g.length) (h3 : ¬ g.length = 0) :
  mkErr hk g = (match mkAt hk g with | none=>0 | some i=>if mkBad hk (g.getD i (0,(0,(0,0)))) then 2 else 8) ∧ mkI hk g = (match mkAt hk g with | none=>0 | some i=>(i : Int)):=by
 simp [mkErr,mkI,h1,h2,h3]
theorem mkBad_false {hk : Int} {x : Grp} (h : mkBad hk x = false) (hk1 : inI hk 1 24 = true) : (0 ≤ x.1 ∧ x.1 < 24 ∧ 0 ≤ x.2.1 ∧ x.2.1 < 24) ∧ 1 ≤ x.2.2.1 ∧ x.2.2.1 ≤ 2 ∧ 1 ≤ x.2.2.2 ∧ x.2.2.2 ≤ 8:=by
 simp [mkBad,inI] at h hk1
 omega
theorem mkBad_any (hk a b w t : Int) : ((!(!([a,b].any fun n=>decide (n < 0) || decide (hk - 1 < n))) || (w != 1 && w != 2)) || (!(!([t].any fun n=>decide (n < 1) || decide (8 < n))))) = mkBad hk (a,(b,(w,t))):=by
 rw [Bool.eq_iff_iff]
 simp [mkBad,inI]
 omega
theorem isEmpty_app (a b : List Int) : (List.isEmpty b && List.isEmpty a) = List.isEmpty (a ++ b):=by
 cases a <;> cases b <;> simp
def al_tie_group_hooks : AL (Int × Int × Int × Int):=(.one (.agg (.cons (.k (.i .i64)) (.cons (.k (.i .i64)) (.cons (.k (.i .i64)) (.one (.k (.i .i64))))))))
def pre_tie_group_hooks (d : Int × Int × Int × Int) : Prop:=0 ≤ d.1 ∧ d.1 < 24 ∧ 0 ≤ d.2.1 ∧ d.2.1 < 24
def res_tie_group_hooks (d : Int × Int × Int × Int) : SV:=.lst 0
def obs_tie_group_hooks (d : Int × Int × Int × Int) : List OB:=[.lst 3 (.i .i64) (hooksG d.1 d.2.1 d.2.2.1) false]
def s_tie_group_hooks : CSp:=mkSp al_tie_group_hooks pre_tie_group_hooks res_tie_group_hooks obs_tie_group_hooks
def vc_tie_group_hooks (fi : Int) (la : Int) (wy : Int) (ti : Int) : Prop :=
 ∀ w1 : List Value,w1 = w1 ∧ ∀ w2 : List Value,∀ w3 : List Value,∀ w4 : LpD,((decide (la < fi)) = true →
  ∃ (e8 : Int × Int × Int × Int × Int × Int × Int × Int × Int × Int × Int × Int × Int × (List Value) × (List Value) × LpD) (d80 : Int × (List Int)),((True ∧ True ∧ (-1 : Int) = e8.2.1 ∧ fi = d80.1 ∧ True) ∧ ((la = e8.1 ∧ (([] : List SV) = [])) ∧ (e8.2.2.2.2.2.2.2.2.2.2.2.2.2.1 = w2 ∧ ((fi = e8.2.2.1 ∧ la = e8.2.2.2.1 ∧ wy = e8.2.2.2.2.1 ∧ ti = e8.2.2.2.2.2.1 ∧ (([] : List SV) = [])) ∧ True ∧ True ∧ True ∧ True ∧ True ∧ True ∧ fi = e8.2.2.2.2.2.2.2.2.2.2.1 ∧ True ∧ True ∧ la = e8.2.2.2.2.2.2.2.2.2.2.2.1 ∧ (((([] : List SV) = [])) ∧ (True ∧ True ∧ (([] : List SV) = []))) ∧ True ∧ True ∧ True ∧ True ∧ True ∧ True ∧ True ∧ True ∧ True ∧ True ∧ True ∧ True ∧ True ∧ True ∧ True ∧ True ∧ True ∧ True ∧ True ∧ True ∧ (([] : List SV) = []))) ∧ (fi = e8.2.2.2.2.2.2.1 ∧ la = e8.2.2.2.2.2.2.2.1 ∧ wy = e8.2.2.2.2.2.2.2.2.1 ∧ ti = e8.2.2.2.2.2.2.2.2.2.1 ∧ (([] : List SV) = [])) ∧ (fi = e8.2.2.2.2.2.2.2.2.2.2.2.2.1 ∧ (([] : List SV) = [])) ∧ (e8.2.2.2.2.2.2.2.2.2.2.2.2.2.2.1 = w3 ∧ ((((([] : List SV) = [])) ∧ (True ∧ True ∧ (([] : List SV) = []))) ∧ True ∧ True ∧ (((([] : List SV) = [])) ∧ (True ∧ True ∧ (([] : List SV) = []))) ∧ True ∧ (([] : List SV) = []))) ∧ (e8.2.2.2.2.2.2.2.2.2.2.2.2.2.2.2 = w4 ∧ (True ∧ (((([] : List SV) = [])) ∧ (True ∧ True ∧ (([] : List SV) = []))) ∧ True ∧ True ∧ True ∧ True ∧ (((([] : List SV) = [])) ∧ (True ∧ True ∧ (([] : List SV) = []))) ∧ True ∧ True ∧ True ∧ True ∧ True ∧ True ∧ (([] : List SV) = []))) ∧ (True ∧ (([] : List SV) = [])) ∧ (d80.2 = [] ∧ (List.isEmpty d80.2) = true) ∧ True)) ∧
  LoopP (fun (d8 : Int × (List Int)) (q8 : (Int × (List Int)) → Prop) =>
   e8.2.2.2.2.2.2.2.2.2.2.2.2.2.2.2 = w4 ∧ ∀ w9 : List Value,(((List.length d8.2) + (List.length [d8.1])) * 8 ≤ 70368744177664) ∧ w9 = w9 ∧ e8.2.2.2.2.2.2.2.2.2.2.2.2.2.2.2 = w4 ∧ (((!true) || (d8.1 == e8.1)) = true →
    e8.2.2.2.2.2.2.2.2.2.2.2.2.2.2.2 = w4 ∧ e8.2.2.2.2.2.2.2.2.2.2.2.2.2.2.1 = w3 ∧ e8.2.2.2.2.2.2.2.2.2.2.2.2.2.1 = w2 ∧ ((e8.2.2.2.2.2.2.2.2.1 == (2 : Int)) = true →
     (I64 ((lI (d8.2 ++ [d8.1])) - (2 : Int))) ∧ ∃ (e11 : Unit) (d110 : (List Int) × Int),((True ∧ ((lI (d8.2 ++ [d8.1])) - (2 : Int)) = d110.2 ∧ True) ∧ (((d8.2 ++ [d8.1]) = d110.1 ∧ false = false) ∧ True)) ∧
     LoopP (fun (d11 : (List Int) × Int) (q11 : ((List Int) × Int) → Prop) =>
      ((decide (d11.2 > (0 : Int))) = true →
       (0 ≤ d11.2) ∧ (d11.2 < (List.length d11.1)) ∧ (((List.length d11.1) + (List.length [(gD d11.1 d11.2 0)])) * 8 ≤ 70368744177664) ∧ (I64 (d11.2 - (1 : Int))) ∧ (∃ d12 : (List Int) × Int,((True ∧ (d11.2 - (1 : Int)) = d12.2 ∧ True) ∧ (((d11.1 ++ [(gD d11.1 d11.2 0)]) = d12.1 ∧ false = false) ∧ True)) ∧ q11 d12)) ∧
      ((decide (d11.2 > (0 : Int))) = false →
       (True ∧ ((d11.1 = (hooksG fi la wy) ∧ false = false) ∧ True)))) d110) ∧
    ((e8.2.2.2.2.2.2.2.2.1 == (2 : Int)) = false →
     (True ∧ (((d8.2 ++ [d8.1]) = (hooksG fi la wy) ∧ false = false) ∧ True)))) ∧
   (((!true) || (d8.1 == e8.1)) = false →
    (I64 (d8.1 + e8.2.1)) ∧ (∃ d13 : Int × (List Int),((True ∧ True ∧ e8.2.1 = e8.2.1 ∧ (d8.1 + e8.2.1) = d13.1 ∧ True) ∧ ((e8.1 = e8.1 ∧ (([] : List SV) = [])) ∧ (e8.2.2.2.2.2.2.2.2.2.2.2.2.2.1 = e8.2.2.2.2.2.2.2.2.2.2.2.2.2.1 ∧ ((e8.2.2.1 = e8.2.2.1 ∧ e8.2.2.2.1 = e8.2.2.2.1 ∧ e8.2.2.2.2.1 = e8.2.2.2.2.1 ∧ e8.2.2.2.2.2.1 = e8.2.2.2.2.2.1 ∧ (([] : List SV) = [])) ∧ True ∧ True ∧ True ∧ True ∧ True ∧ True ∧ e8.2.2.2.2.2.2.2.2.2.2.1 = e8.2.2.2.2.2.2.2.2.2.2.1 ∧ True ∧ True ∧ e8.2.2.2.2.2.2.2.2.2.2.2.1 = e8.2.2.2.2.2.2.2.2.2.2.2.1 ∧ (((([] : List SV) = [])) ∧ (True ∧ True ∧ (([] : List SV) = []))) ∧ True ∧ True ∧ True ∧ True ∧ True ∧ True ∧ True ∧ True ∧ True ∧ True ∧ True ∧ True ∧ True ∧ True ∧ True ∧ True ∧ True ∧ True ∧ True ∧ True ∧ (([] : List SV) = []))) ∧ (e8.2.2.2.2.2.2.1 = e8.2.2.2.2.2.2.1 ∧ e8.2.2.2.2.2.2.2.1 = e8.2.2.2.2.2.2.2.1 ∧ e8.2.2.2.2.2.2.2.2.1 = e8.2.2.2.2.2.2.2.2.1 ∧ e8.2.2.2.2.2.2.2.2.2.1 = e8.2.2.2.2.2.2.2.2.2.1 ∧ (([] : List SV) = [])) ∧ (e8.2.2.2.2.2.2.2.2.2.2.2.2.1 = e8.2.2.2.2.2.2.2.2.2.2.2.2.1 ∧ (([] : List SV) = [])) ∧ (e8.2.2.2.2.2.2.2.2.2.2.2.2.2.2.1 = e8.2.2.2.2.2.2.2.2.2.2.2.2.2.2.1 ∧ ((((([] : List SV) = [])) ∧ (True ∧ True ∧ (([] : List SV) = []))) ∧ True ∧ True ∧ (((([] : List SV) = [])) ∧ (True ∧ True ∧ (([] : List SV) = []))) ∧ True ∧ (([] : List SV) = []))) ∧ (e8.2.2.2.2.2.2.2.2.2.2.2.2.2.2.2 = e8.2.2.2.2.2.2.2.2.2.2.2.2.2.2.2 ∧ (True ∧ (((([] : List SV) = [])) ∧ (True ∧ True ∧ (([] : List SV) = []))) ∧ True ∧ True ∧ True ∧ True ∧ (((([] : List SV) = [])) ∧ (True ∧ True ∧ (([] : List SV) = []))) ∧ True ∧ True ∧ True ∧ True ∧ True ∧ True ∧ (([] : List SV) = []))) ∧ (True ∧ (([] : List SV) = [])) ∧ ((d8.2 ++ [d8.1]) = d13.2 ∧ false = (List.isEmpty d13.2)) ∧ True)) ∧ q8 d13))) d80) ∧
 ((decide (la < fi)) = false →
  ∃ (e17 : Int × Int × Int × Int × Int × Int × Int × Int × Int × Int × Int × Int × Int × (List Value) × (List Value) × LpD) (d170 : Int × (List Int)),((True ∧ True ∧ (1 : Int) = e17.2.1 ∧ fi = d170.1 ∧ True) ∧ ((la = e17.1 ∧ (([] : List SV) = [])) ∧ (e17.2.2.2.2.2.2.2.2.2.2.2.2.2.1 = w2 ∧ ((fi = e17.2.2.1 ∧ la = e17.2.2.2.1 ∧ wy = e17.2.2.2.2.1 ∧ ti = e17.2.2.2.2.2.1 ∧ (([] : List SV) = [])) ∧ True ∧ True ∧ True ∧ True ∧ True ∧ True ∧ fi = e17.2.2.2.2.2.2.2.2.2.2.1 ∧ True ∧ True ∧ la = e17.2.2.2.2.2.2.2.2.2.2.2.1 ∧ (((([] : List SV) = [])) ∧ (True ∧ True ∧ (([] : List SV) = []))) ∧ True ∧ True ∧ True ∧ True ∧ True ∧ True ∧ True ∧ True ∧ True ∧ True ∧ True ∧ True ∧ True ∧ True ∧ True ∧ True ∧ True ∧ True ∧ True ∧ True ∧ (([] : List SV) = []))) ∧ (fi = e17.2.2.2.2.2.2.1 ∧ la = e17.2.2.2.2.2.2.2.1 ∧ wy = e17.2.2.2.2.2.2.2.2.1 ∧ ti = e17.2.2.2.2.2.2.2.2.2.1 ∧ (([] : List SV) = [])) ∧ (fi = e17.2.2.2.2.2.2.2.2.2.2.2.2.1 ∧ (([] : List SV) = [])) ∧ (e17.2.2.2.2.2.2.2.2.2.2.2.2.2.2.1 = w3 ∧ ((((([] : List SV) = [])) ∧ (True ∧ True ∧ (([] : List SV) = []))) ∧ True ∧ True ∧ (((([] : List SV) = [])) ∧ (True ∧ True ∧ (([] : List SV) = []))) ∧ True ∧ (([] : List SV) = []))) ∧ (e17.2.2.2.2.2.2.2.2.2.2.2.2.2.2.2 = w4 ∧ (True ∧ (((([] : List SV) = [])) ∧ (True ∧ True ∧ (([] : List SV) = []))) ∧ True ∧ True ∧ True ∧ True ∧ (((([] : List SV) = [])) ∧ (True ∧ True ∧ (([] : List SV) = []))) ∧ True ∧ True ∧ True ∧ True ∧ True ∧ True ∧ (([] : List SV) = []))) ∧ (True ∧ (([] : List SV) = [])) ∧ (d170.2 = [] ∧ (List.isEmpty d170.2) = true) ∧ True)) ∧
  LoopP (fun (d17 : Int × (List Int)) (q17 : (Int × (List Int)) → Prop) =>
   e17.2.2.2.2.2.2.2.2.2.2.2.2.2.2.2 = w4 ∧ ∀ w18 : List Value,(((List.length d17.2) + (List.length [d17.1])) * 8 ≤ 70368744177664) ∧ w18 = w18 ∧ e17.2.2.2.2.2.2.2.2.2.2.2.2.2.2.2 = w4 ∧ (((!true) || (d17.1 == e17.1)) = true →
    e17.2.2.2.2.2.2.2.2.2.2.2.2.2.2.2 = w4 ∧ e17.2.2.2.2.2.2.2.2.2.2.2.2.2.2.1 = w3 ∧ e17.2.2.2.2.2.2.2.2.2.2.2.2.2.1 = w2 ∧ ((e17.2.2.2.2.2.2.2.2.1 == (2 : Int)) = true →
     (I64 ((lI (d17.2 ++ [d17.1])) - (2 : Int))) ∧ ∃ (e20 : Unit) (d200 : (List Int) × Int),((True ∧ ((lI (d17.2 ++ [d17.1])) - (2 : Int)) = d200.2 ∧ True) ∧ (((d17.2 ++ [d17.1]) = d200.1 ∧ false = false) ∧ True)) ∧
     LoopP (fun (d20 : (List Int) × Int) (q20 : ((List Int) × Int) → Prop) =>
      ((decide (d20.2 > (0 : Int))) = true →
       (0 ≤ d20.2) ∧ (d20.2 < (List.length d20.1)) ∧ (((List.length d20.1) + (List.length [(gD d20.1 d20.2 0)])) * 8 ≤ 70368744177664) ∧ (I64 (d20.2 - (1 : Int))) ∧ (∃ d21 : (List Int) × Int,((True ∧ (d20.2 - (1 : Int)) = d21.2 ∧ True) ∧ (((d20.1 ++ [(gD d20.1 d20.2 0)]) = d21.1 ∧ false = false) ∧ True)) ∧ q20 d21)) ∧
      ((decide (d20.2 > (0 : Int))) = false →
       (True ∧ ((d20.1 = (hooksG fi la wy) ∧ false = false) ∧ True)))) d200) ∧
    ((e17.2.2.2.2.2.2.2.2.1 == (2 : Int)) = false →
     (True ∧ (((d17.2 ++ [d17.1]) = (hooksG fi la wy) ∧ false = false) ∧ True)))) ∧
   (((!true) || (d17.1 == e17.1)) = false →
    (I64 (d17.1 + e17.2.1)) ∧ (∃ d22 : Int × (List Int),((True ∧ True ∧ e17.2.1 = e17.2.1 ∧ (d17.1 + e17.2.1) = d22.1 ∧ True) ∧ ((e17.1 = e17.1 ∧ (([] : List SV) = [])) ∧ (e17.2.2.2.2.2.2.2.2.2.2.2.2.2.1 = e17.2.2.2.2.2.2.2.2.2.2.2.2.2.1 ∧ ((e17.2.2.1 = e17.2.2.1 ∧ e17.2.2.2.1 = e17.2.2.2.1 ∧ e17.2.2.2.2.1 = e17.2.2.2.2.1 ∧ e17.2.2.2.2.2.1 = e17.2.2.2.2.2.1 ∧ (([] : List SV) = [])) ∧ True ∧ True ∧ True ∧ True ∧ True ∧ True ∧ e17.2.2.2.2.2.2.2.2.2.2.1 = e17.2.2.2.2.2.2.2.2.2.2.1 ∧ True ∧ True ∧ e17.2.2.2.2.2.2.2.2.2.2.2.1 = e17.2.2.2.2.2.2.2.2.2.2.2.1 ∧ (((([] : List SV) = [])) ∧ (True ∧ True ∧ (([] : List SV) = []))) ∧ True ∧ True ∧ True ∧ True ∧ True ∧ True ∧ True ∧ True ∧ True ∧ True ∧ True ∧ True ∧ True ∧ True ∧ True ∧ True ∧ True ∧ True ∧ True ∧ True ∧ (([] : List SV) = []))) ∧ (e17.2.2.2.2.2.2.1 = e17.2.2.2.2.2.2.1 ∧ e17.2.2.2.2.2.2.2.1 = e17.2.2.2.2.2.2.2.1 ∧ e17.2.2.2.2.2.2.2.2.1 = e17.2.2.2.2.2.2.2.2.1 ∧ e17.2.2.2.2.2.2.2.2.2.1 = e17.2.2.2.2.2.2.2.2.2.1 ∧ (([] : List SV) = [])) ∧ (e17.2.2.2.2.2.2.2.2.2.2.2.2.1 = e17.2.2.2.2.2.2.2.2.2.2.2.2.1 ∧ (([] : List SV) = [])) ∧ (e17.2.2.2.2.2.2.2.2.2.2.2.2.2.2.1 = e17.2.2.2.2.2.2.2.2.2.2.2.2.2.2.1 ∧ ((((([] : List SV) = [])) ∧ (True ∧ True ∧ (([] : List SV) = []))) ∧ True ∧ True ∧ (((([] : List SV) = [])) ∧ (True ∧ True ∧ (([] : List SV) = []))) ∧ True ∧ (([] : List SV) = []))) ∧ (e17.2.2.2.2.2.2.2.2.2.2.2.2.2.2.2 = e17.2.2.2.2.2.2.2.2.2.2.2.2.2.2.2 ∧ (True ∧ (((([] : List SV) = [])) ∧ (True ∧ True ∧ (([] : List SV) = []))) ∧ True ∧ True ∧ True ∧ True ∧ (((([] : List SV) = [])) ∧ (True ∧ True ∧ (([] : List SV) = []))) ∧ True ∧ True ∧ True ∧ True ∧ True ∧ True ∧ (([] : List SV) = []))) ∧ (True ∧ (([] : List SV) = [])) ∧ ((d17.2 ++ [d17.1]) = d22.2 ∧ false = (List.isEmpty d22.2)) ∧ True)) ∧ q17 d22))) d170)
def cx_tie_group_hooks_tie_straight : Cx:=⟨[],[],6,[],0,[],[],[],[],false,[],[],[]⟩
def li_tie_group_hooks_tie_straight : List (Nat × LoopAnn):=[]
def cx_tie_group_hooks_slices_Collect_int_slices_AppendSeq_int_int_tie_straight_1 : Cx:=⟨[],[],22,[],0,[],[],[],[],false,[],[],[]⟩
def li_tie_group_hooks_slices_Collect_int_slices_AppendSeq_int_int_tie_straight_1 : List (Nat × LoopAnn):=[(0,⟨Int × Int × Int × Int × Int × Int × Int × Int × Int × Int × Int × Int × Int × (List Value) × (List Value) × LpD,Int × (List Int),[0,1,4,5],fun e x=>[.dd 130002500000 .yv,.box 1200003 0,.val (.i .i64) e.2.1,.val (.i .i64) x.1],fun e x=>[(1200003,.slot 1,.cells [.val (.i .i64) e.1] (some 3)),(1299999,.key 1299999,.stk [.agg [.val (.i .i64) e.2.2.1,.val (.i .i64) e.2.2.2.1,.val (.i .i64) e.2.2.2.2.1,.val (.i .i64) e.2.2.2.2.2.1],.box 1 0,.nilS,.any,.any,.box 1 0,.box 1 0,.val (.i .i64) e.2.2.2.2.2.2.2.2.2.2.1,.box 1 0,.box 1 1,.val (.i .i64) e.2.2.2.2.2.2.2.2.2.2.2.1,.fn 134 [] [.box 1200003 0,.box 1200002 0],.any,.any,.any,.any,.any,.any,.any,.any,.any,.any,.any,.any,.any,.any,.any,.any,.any,.any,.any,.any] e.2.2.2.2.2.2.2.2.2.2.2.2.2.1),(1,.key 1,.cells [.val (.i .i64) e.2.2.2.2.2.2.1,.val (.i .i64) e.2.2.2.2.2.2.2.1,.val (.i .i64) e.2.2.2.2.2.2.2.2.1,.val (.i .i64) e.2.2.2.2.2.2.2.2.2.1] (some 115)),(1200002,.key 1200002,.cells [.val (.i .i64) e.2.2.2.2.2.2.2.2.2.2.2.2.1] (some 3)),(130000499999,.key 130000499999,.stk [.fn 134 [] [.box 1200003 0,.box 1200002 0],.any,.nilS,.fn 134 [] [.box 1200003 0,.box 1200002 0],.any] e.2.2.2.2.2.2.2.2.2.2.2.2.2.2.1),(130002500000,.key 130002500000,.lpf [.nilS,.fn 134 [] [.box 1200003 0,.box 1200002 0],.box 130000500002 0,.any,.nilS,.any,.fn 134 [] [.box 1200003 0,.box 1200002 0],.any,.any,.any,.any,.any,.any] e.2.2.2.2.2.2.2.2.2.2.2.2.2.2.2 .rdy),(130000500002,.key 130000500002,.cells [.lst 130000500011] (some 24)),(130000500011,.cell 130000500002 0,.lst 3 (.i .i64) x.2 (List.isEmpty x.2))]⟩)]
def cx_tie_group_hooks_slices_Collect_int_slices_AppendSeq_int_int : Cx:=⟨[(3,(.i .i64))],[],13,[],0,[],[],[],[],false,[],[(134,inlI cx_tie_group_hooks_slices_Collect_int_slices_AppendSeq_int_int_tie_straight_1 li_tie_group_hooks_slices_Collect_int_slices_AppendSeq_int_int_tie_straight_1 c134 22)],[]⟩
def li_tie_group_hooks_slices_Collect_int_slices_AppendSeq_int_int : List (Nat × LoopAnn):=[]
def cx_tie_group_hooks_slices_Collect_int : Cx:=⟨[],[],5,[],0,[(133,inlX cx_tie_group_hooks_slices_Collect_int_slices_AppendSeq_int_int (fun _=>li_tie_group_hooks_slices_Collect_int_slices_AppendSeq_int_int) c133 [.tmp 4] 13)],[],[],[],false,[],[],[]⟩
def li_tie_group_hooks_slices_Collect_int : List (Nat × LoopAnn):=[]
def cx_tie_group_hooks : Cx:=⟨[(3,(.i .i64))],[],32,[],0,[(105,inlX cx_tie_group_hooks_tie_straight (fun _=>li_tie_group_hooks_tie_straight) c105 [.tmp 4] 6),(104,inlX cx_tie_group_hooks_slices_Collect_int (fun _=>li_tie_group_hooks_slices_Collect_int) c104 [.tmp 2] 5)],[],[],[],false,[],[],[]⟩
def lp_tie_group_hooks (fi : Int) (la : Int) (wy : Int) (ti : Int) : List (Nat × LoopAnn):=[(0,⟨Unit,(List Int) × Int,[3,4],fun e x=>[.lst 130000500011,.val (.i .i64) x.2],fun e x=>[(130000500011,.slot 3,.lst 3 (.i .i64) x.1 false)]⟩)]
set_option maxRecDepth 100000 in
theorem vq_tie_group_hooks (d : Int × Int × Int × Int) : gwp (cx_tie_group_hooks) (lp_tie_group_hooks d.1 d.2.1 d.2.2.1 d.2.2.2) c69 0 (gend [.tmp 2] (res_tie_group_hooks d) (obs_tie_group_hooks d)) (gstart 32 (AL.can al_tie_group_hooks d)) = vc_tie_group_hooks d.1 d.2.1 d.2.2.1 d.2.2.2:=by kernel_rfl
abbrev Ok_tie_group_hooks : Prop:=OkC Tryz.prog 69 s_tie_group_hooks
theorem mk_tie_group_hooks (h : ∀ (fi : Int) (la : Int) (wy : Int) (ti : Int),(0 ≤ fi ∧ fi < 24 ∧ 0 ≤ la ∧ la < 24) → vc_tie_group_hooks fi la wy ti) : OkC Tryz.prog 69 s_tie_group_hooks :=
 okC_vc fun69 mixed (C:=cx_tie_group_hooks) (V:=fun (d : Int × Int × Int × Int)=>vc_tie_group_hooks d.1 d.2.1 d.2.2.1 d.2.2.2) ⟨.nil,(XsOk.cons (inlX_ok fun105 mixed (C:=cx_tie_group_hooks_tie_straight) ⟨.nil,XsOk.nil,ItsOk.nil,YlOk.nil,IysOk.nil⟩ (fun _=>li_tie_group_hooks_tie_straight)) (XsOk.cons (inlX_ok fun104 mixed (C:=cx_tie_group_hooks_slices_Collect_int) ⟨.nil,(XsOk.cons (inlX_ok fun133 mixed (C:=cx_tie_group_hooks_slices_Collect_int_slices_AppendSeq_int_int) ⟨.nil,XsOk.nil,ItsOk.nil,YlOk.nil,(IysOk.cons (inlI_ok fun134 mixed (C:=cx_tie_group_hooks_slices_Collect_int_slices_AppendSeq_int_int_tie_straight_1) ⟨.nil,XsOk.nil,ItsOk.nil,YlOk.nil,IysOk.nil⟩ li_tie_group_hooks_slices_Collect_int_slices_AppendSeq_int_int_tie_straight_1) IysOk.nil)⟩ (fun _=>li_tie_group_hooks_slices_Collect_int_slices_AppendSeq_int_int)) XsOk.nil),ItsOk.nil,YlOk.nil,IysOk.nil⟩ (fun _=>li_tie_group_hooks_slices_Collect_int)) XsOk.nil)),ItsOk.nil,YlOk.nil,IysOk.nil⟩ (vq_tie_group_hooks) fun d hp=>h d.1 d.2.1 d.2.2.1 d.2.2.2 hp
theorem hAt_step {fi la : Int} (k : Nat) : hAt fi la (k + 1) = hAt fi la k + (if la < fi then -1 else 1):=by
 unfold hAt; split <;> omega
theorem hAt_range {fi la : Int} {k : Nat} (h : 0 ≤ fi ∧ fi < 24 ∧ 0 ≤ la ∧ la < 24) (hk : k ≤ hN fi la) : 0 ≤ hAt fi la k ∧ hAt fi la k < 24:=by
 unfold hAt hN at *; split <;> omega
theorem ok_tie_group_hooks : Ok_tie_group_hooks:=mk_tie_group_hooks fun fi la wy ti h=>by
 unfold vc_tie_group_hooks; (try delta lI gD sT I64)
 (try simp only [decide_eq_true_eq,decide_eq_false_iff_not])
 have hn : hN fi la ≤ 24:=by unfold hN; omega
 refine fun w1=>⟨trivial,fun w2 w3 w4=>⟨fun hc=>?_,fun hc=>?_⟩⟩
 all_goals
  refine ⟨(_,_,_,_,_,_,_,_,_,_,_,_,_,_,_,_),(_,_),(by and_intros <;> first | rfl | trivial | simp),?_⟩
  dsimp only
  refine ⟨fun d=>∃ k : Nat,k ≤ hN fi la ∧ d = (hAt fi la k,strK fi la k),fun d=>hN fi la - d.2.length,⟨0,by omega,by simp [hAt,strK]⟩,?_⟩
  rintro _ ⟨k,hk,rfl⟩
  have hr:=hAt_range h hk
  have hs:=hAt_step (fi:=fi) (la:=la) k
  simp only [hc,if_true,if_false] at hs
  dsimp only
  simp only [← strK_succ,strK_length,List.length_singleton,InK_i64,Bool.not_true,Bool.false_or,beq_iff_eq,beq_eq_false_iff_ne,ne_eq,hAt_end hk,← hs]
  refine ⟨trivial,fun w9=>⟨by omega,?_⟩⟩
  refine ⟨trivial,trivial,fun he=>?_,fun he=>?_⟩
  ·subst he
   refine ⟨trivial,trivial,trivial,fun hw=>⟨by omega,(),(_,_),(by and_intros <;> first | rfl | trivial | simp),?_⟩,fun hw=>by simp [hooksG,hw]⟩
   refine ⟨fun d=>∃ j : Nat,j ≤ hN fi la - 1 ∧ d.2 = (((hN fi la + 1 : Nat) : Int) - 2 - j) ∧ d.1 = strK fi la (hN fi la + 1) ++ backK fi la (hN fi la) j,fun d=>d.2.toNat,⟨0,by omega,by simp,by simp [backK,strK]⟩,?_⟩
   rintro ⟨_,_⟩ ⟨j,hj,h2,h1⟩
   dsimp only at h1 h2 ⊢
   subst h1 h2
   simp only [List.length_append,strK_length,backK_length]
   refine ⟨fun hgt=>?_,fun hle=>?_⟩
   ·have e : (((hN fi la + 1 : Nat) : Int) - 2 - (j : Int)).toNat = hN fi la - 1 - j:=by omega
    rw [e,strK_at (by omega),List.append_assoc,← backK_succ]
    refine ⟨by omega,by omega,by omega,by omega,(_,_),(by and_intros <;> first | rfl | trivial | simp),⟨j + 1,by omega,?_,rfl⟩,?_⟩
    ·dsimp only; omega
    ·dsimp only; omega
   ·have : j = hN fi la - 1:=by omega
    subst this
    simp [hooksG,hw]
  ·refine ⟨?_,(hAt fi la (k + 1),strK fi la (k + 1)),(by rw [strK_succ]; and_intros <;> first | rfl | trivial | simp),⟨k + 1,by omega,rfl⟩,?_⟩
   ·have:=hAt_range h (show k + 1 ≤ hN fi la by omega); omega
   ·simp only [strK_length]; omega
def al_ref03_Hooks : AL (Int × Int × Int × Int):=(.one (.agg (.cons (.k (.i .i64)) (.cons (.k (.i .i64)) (.cons (.k (.i .i64)) (.one (.k (.i .i64))))))))
def pre_ref03_Hooks (d : Int × Int × Int × Int) : Prop:=0 ≤ d.1 ∧ d.1 < 24 ∧ 0 ≤ d.2.1 ∧ d.2.1 < 24
def res_ref03_Hooks (d : Int × Int × Int × Int) : SV:=.lst 0
def obs_ref03_Hooks (d : Int × Int × Int × Int) : List OB:=[.lst 3 (.i .i64) (hooksG d.1 d.2.1 d.2.2.1) false]
def s_ref03_Hooks : CSp:=mkSp al_ref03_Hooks pre_ref03_Hooks res_ref03_Hooks obs_ref03_Hooks
def vc_ref03_Hooks (fi : Int) (la : Int) (wy : Int) (ti : Int) : Prop :=
 ∃ (e3 : Unit) (d30 : (List Int) × Int),((True ∧ True ∧ fi = d30.2 ∧ True) ∧ ((fi = fi ∧ la = la ∧ wy = wy ∧ ti = ti ∧ (([] : List SV) = [])) ∧ ([fi] = d30.1 ∧ false = false) ∧ True)) ∧
 LoopP (fun (d3 : (List Int) × Int) (q3 : ((List Int) × Int) → Prop) =>
  ((d3.2 != la) = true →
   ((decide (d3.2 < la)) = true →
    (I64 (d3.2 + (1 : Int))) ∧ (((List.length d3.1) + (List.length [(d3.2 + (1 : Int))])) * 8 ≤ 70368744177664) ∧ (∃ d4 : (List Int) × Int,((True ∧ True ∧ (d3.2 + (1 : Int)) = d4.2 ∧ True) ∧ ((fi = fi ∧ la = la ∧ wy = wy ∧ ti = ti ∧ (([] : List SV) = [])) ∧ ((d3.1 ++ [(d3.2 + (1 : Int))]) = d4.1 ∧ false = false) ∧ True)) ∧ q3 d4)) ∧
   ((decide (d3.2 < la)) = false →
    (I64 (d3.2 - (1 : Int))) ∧ (((List.length d3.1) + (List.length [(d3.2 - (1 : Int))])) * 8 ≤ 70368744177664) ∧ (∃ d5 : (List Int) × Int,((True ∧ True ∧ (d3.2 - (1 : Int)) = d5.2 ∧ True) ∧ ((fi = fi ∧ la = la ∧ wy = wy ∧ ti = ti ∧ (([] : List SV) = [])) ∧ ((d3.1 ++ [(d3.2 - (1 : Int))]) = d5.1 ∧ false = false) ∧ True)) ∧ q3 d5))) ∧
  ((d3.2 != la) = false →
   ((wy == (2 : Int)) = true →
    ∃ (e8 : Unit) (d80 : (List Int) × Int),((True ∧ True ∧ d3.2 = d80.2 ∧ True) ∧ ((fi = fi ∧ la = la ∧ wy = wy ∧ ti = ti ∧ (([] : List SV) = [])) ∧ (d3.1 = d80.1 ∧ false = false) ∧ True)) ∧
    LoopP (fun (d8 : (List Int) × Int) (q8 : ((List Int) × Int) → Prop) =>
     ((d8.2 != fi) = true →
      ((decide (d8.2 < fi)) = true →
       (I64 (d8.2 + (1 : Int))) ∧ (((d8.2 + (1 : Int)) != fi) = true →
        (((List.length d8.1) + (List.length [(d8.2 + (1 : Int))])) * 8 ≤ 70368744177664) ∧ (∃ d9 : (List Int) × Int,((True ∧ True ∧ (d8.2 + (1 : Int)) = d9.2 ∧ True) ∧ ((fi = fi ∧ la = la ∧ wy = wy ∧ ti = ti ∧ (([] : List SV) = [])) ∧ ((d8.1 ++ [(d8.2 + (1 : Int))]) = d9.1 ∧ false = false) ∧ True)) ∧ q8 d9)) ∧
       (((d8.2 + (1 : Int)) != fi) = false →
        (∃ d10 : (List Int) × Int,((True ∧ True ∧ (d8.2 + (1 : Int)) = d10.2 ∧ True) ∧ ((fi = fi ∧ la = la ∧ wy = wy ∧ ti = ti ∧ (([] : List SV) = [])) ∧ (d8.1 = d10.1 ∧ false = false) ∧ True)) ∧ q8 d10))) ∧
      ((decide (d8.2 < fi)) = false →
       (I64 (d8.2 - (1 : Int))) ∧ (((d8.2 - (1 : Int)) != fi) = true →
        (((List.length d8.1) + (List.length [(d8.2 - (1 : Int))])) * 8 ≤ 70368744177664) ∧ (∃ d11 : (List Int) × Int,((True ∧ True ∧ (d8.2 - (1 : Int)) = d11.2 ∧ True) ∧ ((fi = fi ∧ la = la ∧ wy = wy ∧ ti = ti ∧ (([] : List SV) = [])) ∧ ((d8.1 ++ [(d8.2 - (1 : Int))]) = d11.1 ∧ false = false) ∧ True)) ∧ q8 d11)) ∧
       (((d8.2 - (1 : Int)) != fi) = false →
        (∃ d12 : (List Int) × Int,((True ∧ True ∧ (d8.2 - (1 : Int)) = d12.2 ∧ True) ∧ ((fi = fi ∧ la = la ∧ wy = wy ∧ ti = ti ∧ (([] : List SV) = [])) ∧ (d8.1 = d12.1 ∧ false = false) ∧ True)) ∧ q8 d12)))) ∧
     ((d8.2 != fi) = false →
      (True ∧ ((d8.1 = (hooksG fi la wy) ∧ false = false) ∧ True)))) d80) ∧
   ((wy == (2 : Int)) = false →
    (True ∧ ((d3.1 = (hooksG fi la wy) ∧ false = false) ∧ True))))) d30
def cx_ref03_Hooks : Cx:=⟨[(3,(.i .i64))],[],50,[],0,[],[],[],[],false,[],[],[]⟩
def lp_ref03_Hooks (fi : Int) (la : Int) (wy : Int) (ti : Int) : List (Nat × LoopAnn):=[(0,⟨Unit,(List Int) × Int,[1,3,4],fun e x=>[.box 1 0,.lst 7,.val (.i .i64) x.2],fun e x=>[(1,.slot 1,.cells [.val (.i .i64) fi,.val (.i .i64) la,.val (.i .i64) wy,.val (.i .i64) ti] (some 32)),(7,.slot 3,.lst 3 (.i .i64) x.1 false)]⟩),
 (2,⟨Unit,(List Int) × Int,[1,3,4],fun e x=>[.box 1 0,.lst 7,.val (.i .i64) x.2],fun e x=>[(1,.slot 1,.cells [.val (.i .i64) fi,.val (.i .i64) la,.val (.i .i64) wy,.val (.i .i64) ti] (some 32)),(7,.slot 3,.lst 3 (.i .i64) x.1 false)]⟩)]
set_option maxRecDepth 100000 in
theorem vq_ref03_Hooks (d : Int × Int × Int × Int) : gwp (cx_ref03_Hooks) (lp_ref03_Hooks d.1 d.2.1 d.2.2.1 d.2.2.2) c70 0 (gend [.tmp 2] (res_ref03_Hooks d) (obs_ref03_Hooks d)) (gstart 50 (AL.can al_ref03_Hooks d)) = vc_ref03_Hooks d.1 d.2.1 d.2.2.1 d.2.2.2:=by kernel_rfl
abbrev Ok_ref03_Hooks : Prop:=OkC Tryz.prog 70 s_ref03_Hooks
theorem mk_ref03_Hooks (h : ∀ (fi : Int) (la : Int) (wy : Int) (ti : Int),(0 ≤ fi ∧ fi < 24 ∧ 0 ≤ la ∧ la < 24) → vc_ref03_Hooks fi la wy ti) : OkC Tryz.prog 70 s_ref03_Hooks :=
 okC_vc fun70 mixed (C:=cx_ref03_Hooks) (V:=fun (d : Int × Int × Int × Int)=>vc_ref03_Hooks d.1 d.2.1 d.2.2.1 d.2.2.2) ⟨.nil,XsOk.nil,ItsOk.nil,YlOk.nil,IysOk.nil⟩ (vq_ref03_Hooks) fun d hp=>h d.1 d.2.1 d.2.2.1 d.2.2.2 hp
theorem ok_ref03_Hooks : Ok_ref03_Hooks:=mk_ref03_Hooks fun fi la wy ti h=>by
 unfold vc_ref03_Hooks; (try delta lI gD sT I64)
 (try simp only [decide_eq_true_eq,decide_eq_false_iff_not])
 have hn : hN fi la ≤ 24:=by unfold hN; omega
 refine ⟨(),(_,_),(by and_intros <;> first | rfl | trivial | simp),?_⟩
 refine ⟨fun d=>∃ k : Nat,k ≤ hN fi la ∧ d = (strK fi la (k + 1),hAt fi la k),fun d=>hN fi la + 1 - d.1.length,⟨0,by omega,by simp [hAt,strK]⟩,?_⟩
 rintro _ ⟨k,hk,rfl⟩
 have hr:=hAt_range h hk
 have hs:=hAt_step (fi:=fi) (la:=la) k
 dsimp only
 simp only [strK_length,List.length_singleton,InK_i64,bne_iff_ne,bne_eq_false_iff_eq,ne_eq,hAt_end hk]
 refine ⟨fun hne=>⟨fun hlt=>?_,fun hge=>?_⟩,fun he=>?_⟩
 ·have hc : ¬ la < fi:=by unfold hAt hN at *; split at hlt <;> omega
  rw [if_neg hc] at hs
  rw [← hs,← strK_succ]
  have:=hAt_range h (show k + 1 ≤ hN fi la by omega)
  refine ⟨by omega,by omega,(strK fi la (k + 1 + 1),hAt fi la (k + 1)),(by and_intros <;> first | rfl | trivial | simp),⟨k + 1,by omega,rfl⟩,?_⟩
  simp only [strK_length]; omega
 ·have hc : la < fi:=by unfold hAt hN at *; split at hge <;> omega
  rw [if_pos hc] at hs
  have hs : hAt fi la (k + 1) = hAt fi la k - 1:=by omega
  rw [← hs,← strK_succ]
  have:=hAt_range h (show k + 1 ≤ hN fi la by omega)
  refine ⟨by omega,by omega,(strK fi la (k + 1 + 1),hAt fi la (k + 1)),(by and_intros <;> first | rfl | trivial | simp),⟨k + 1,by omega,rfl⟩,?_⟩
  simp only [strK_length]; omega
 ·subst he
  refine ⟨fun hw=>⟨(),(strK fi la (hN fi la + 1),hAt fi la (hN fi la)),(by and_intros <;> first | rfl | trivial | simp),?_⟩,fun hw=>by simp only [beq_eq_false_iff_ne,ne_eq] at hw; simp [hooksG,hw]⟩
  have hw : wy = 2:=by simpa using hw
  refine ⟨fun d=>∃ j : Nat,j ≤ hN fi la ∧ d = (strK fi la (hN fi la + 1) ++ backK fi la (hN fi la) (min j (hN fi la - 1)),hAt fi la (hN fi la - j)),fun d=>(if la < fi then fi - d.2 else d.2 - fi).toNat,⟨0,by omega,by simp [backK]⟩,?_⟩
  rintro _ ⟨j,hj,rfl⟩
  dsimp only
  have hr:=hAt_range h (show hN fi la - j ≤ hN fi la by omega)
  simp only [List.length_append,strK_length,backK_length,hAt_first]
  refine ⟨fun hne=>?_,fun he=>?_⟩
  ·have e0 : hN fi la - j = hN fi la - (j + 1) + 1:=by omega
   have hs:=hAt_step (fi:=fi) (la:=la) (hN fi la - (j + 1))
   rw [← e0] at hs
   have hr2:=hAt_range h (show hN fi la - (j + 1) ≤ hN fi la by omega)
   have em : min j (hN fi la - 1) = j:=by omega
   rw [em]
   refine ⟨fun hlt=>?_,fun hge=>?_⟩
   ·have hc : la < fi:=by unfold hAt hN at *; split at hlt <;> omega
    rw [if_pos hc] at hs
    have hs : hAt fi la (hN fi la - j) + 1 = hAt fi la (hN fi la - (j + 1)):=by omega
    rw [hs]
    simp only [hAt_first]
    refine ⟨by omega,fun h0=>⟨by omega,(strK fi la (hN fi la + 1) ++ backK fi la (hN fi la) j ++ [hAt fi la (hN fi la - (j + 1))],hAt fi la (hN fi la - (j + 1))),(by and_intros <;> first | rfl | trivial | simp),⟨j + 1,by omega,?_⟩,?_⟩,fun h0=>⟨(strK fi la (hN fi la + 1) ++ backK fi la (hN fi la) j,hAt fi la (hN fi la - (j + 1))),(by and_intros <;> first | rfl | trivial | simp),⟨j + 1,by omega,?_⟩,?_⟩⟩
    ·have em2 : min (j + 1) (hN fi la - 1) = j + 1:=by omega
     have e3 : hN fi la - (j + 1) = hN fi la - 1 - j:=by omega
     rw [em2,backK_succ,← e3,List.append_assoc]
    ·dsimp only; simp only [hc,if_true]; omega
    ·have em2 : min (j + 1) (hN fi la - 1) = j:=by omega
     rw [em2]
    ·dsimp only; simp only [hc,if_true]; omega
   ·have hc : ¬ la < fi:=by unfold hAt hN at *; split at hge <;> omega
    rw [if_neg hc] at hs
    have hs : hAt fi la (hN fi la - j) - 1 = hAt fi la (hN fi la - (j + 1)):=by omega
    have hge2 : fi ≤ hAt fi la (hN fi la - (j + 1)):=by unfold hAt; rw [if_neg hc]; omega
    rw [hs]
    simp only [hAt_first]
    refine ⟨by omega,fun h0=>⟨by omega,(strK fi la (hN fi la + 1) ++ backK fi la (hN fi la) j ++ [hAt fi la (hN fi la - (j + 1))],hAt fi la (hN fi la - (j + 1))),(by and_intros <;> first | rfl | trivial | simp),⟨j + 1,by omega,?_⟩,?_⟩,fun h0=>⟨(strK fi la (hN fi la + 1) ++ backK fi la (hN fi la) j,hAt fi la (hN fi la - (j + 1))),(by and_intros <;> first | rfl | trivial | simp),⟨j + 1,by omega,?_⟩,?_⟩⟩
    ·have em2 : min (j + 1) (hN fi la - 1) = j + 1:=by omega
     have e3 : hN fi la - (j + 1) = hN fi la - 1 - j:=by omega
     rw [em2,backK_succ,← e3,List.append_assoc]
    ·dsimp only; simp only [hc,if_false]; omega
    ·have em2 : min (j + 1) (hN fi la - 1) = j:=by omega
     rw [em2]
    ·dsimp only; simp only [hc,if_false]; omega
  ·have : min j (hN fi la - 1) = hN fi la - 1:=by omega
   rw [this]; simp [hooksG,hw]
end Go.Proofs.Tryz
set_option linter.unusedVariables false
namespace Go.Proofs.Tryz
open Go Go.V Go.Proofs
def al_math_bits_Mul32 : AL (Int × Int):=(.cons (.k (.i .u32)) (.one (.k (.i .u32))))
def pre_math_bits_Mul32 (d : Int × Int) : Prop:=False
def res_math_bits_Mul32 (d : Int × Int) : SV:=.tup [.val (.i .u32) (0 : Int),.val (.i .u32) (0 : Int)]
def obs_math_bits_Mul32 (d : Int × Int) : List OB:=[]
def s_math_bits_Mul32 : CSp:=mkSp al_math_bits_Mul32 pre_math_bits_Mul32 res_math_bits_Mul32 obs_math_bits_Mul32
def vc_math_bits_Mul32 (a : Int) (b : Int) : Prop :=
 (InK .u64 a) ∧ (InK .u64 b) ∧ (InK .u64 (a * b)) ∧ (0 ≤ (32 : Int)) ∧ (InK .u32 (shrI .u64 (a * b) (32 : Int))) ∧ (InK .u32 (a * b)) ∧ (((shrI .u64 (a * b) (32 : Int)) = (0 : Int) ∧ (a * b) = (0 : Int) ∧ (([] : List SV) = [])) ∧ (True))
def cx_math_bits_Mul32 : Cx:=⟨[],[],17,[],0,[],[],[],[],false,[],[],[]⟩
def lp_math_bits_Mul32 (a : Int) (b : Int) : List (Nat × LoopAnn):=[]
set_option maxRecDepth 100000 in
theorem vq_math_bits_Mul32 (d : Int × Int) : gwp (cx_math_bits_Mul32) (lp_math_bits_Mul32 d.1 d.2) c131 0 (gend [.tmp 4,.tmp 5] (res_math_bits_Mul32 d) (obs_math_bits_Mul32 d)) (gstart 17 (AL.can al_math_bits_Mul32 d)) = vc_math_bits_Mul32 d.1 d.2:=by kernel_rfl
abbrev Ok_math_bits_Mul32 : Prop:=OkC Tryz.prog 131 s_math_bits_Mul32
theorem mk_math_bits_Mul32 (h : ∀ (a : Int) (b : Int),(False) → vc_math_bits_Mul32 a b) : OkC Tryz.prog 131 s_math_bits_Mul32 :=
 okC_vc fun131 mixed (C:=cx_math_bits_Mul32) (V:=fun (d : Int × Int)=>vc_math_bits_Mul32 d.1 d.2) ⟨.nil,XsOk.nil,ItsOk.nil,YlOk.nil,IysOk.nil⟩ (vq_math_bits_Mul32) fun d hp=>h d.1 d.2 hp
theorem ok_math_bits_Mul32 : Ok_math_bits_Mul32:=mk_math_bits_Mul32 fun a b h=>h.elim
def al_math_bits_Mul64 : AL (Int × Int):=(.cons (.k (.i .u64)) (.one (.k (.i .u64))))
def pre_math_bits_Mul64 (d : Int × Int) : Prop:=0 ≤ d.1 ∧ d.1 ≤ 65535 ∧ 0 ≤ d.2 ∧ d.2 ≤ 65535
def res_math_bits_Mul64 (d : Int × Int) : SV:=.tup [.val (.i .u64) (0 : Int),.val (.i .u64) (d.1 * d.2)]
def obs_math_bits_Mul64 (d : Int × Int) : List OB:=[]
def s_math_bits_Mul64 : CSp:=mkSp al_math_bits_Mul64 pre_math_bits_Mul64 res_math_bits_Mul64 obs_math_bits_Mul64
def vc_math_bits_Mul64 (a : Int) (b : Int) : Prop :=
 (0 ≤ (32 : Int)) ∧ (0 ≤ (32 : Int)) ∧ (InK .u64 ((vbits .and .u64 a (4294967295 : Int)) * (vbits .and .u64 b (4294967295 : Int)))) ∧ (InK .u64 ((shrI .u64 a (32 : Int)) * (vbits .and .u64 b (4294967295 : Int)))) ∧ (0 ≤ (32 : Int)) ∧ (InK .u64 (((shrI .u64 a (32 : Int)) * (vbits .and .u64 b (4294967295 : Int))) + (shrI .u64 ((vbits .and .u64 a (4294967295 : Int)) * (vbits .and .u64 b (4294967295 : Int))) (32 : Int)))) ∧ (0 ≤ (32 : Int)) ∧ (InK .u64 ((vbits .and .u64 a (4294967295 : Int)) * (shrI .u64 b (32 : Int)))) ∧ (InK .u64 ((vbits .and .u64 (((shrI .u64 a (32 : Int)) * (vbits .and .u64 b (4294967295 : Int))) + (shrI .u64 ((vbits .and .u64 a (4294967295 : Int)) * (vbits .and .u64 b (4294967295 : Int))) (32 : Int))) (4294967295 : Int)) + ((vbits .and .u64 a (4294967295 : Int)) * (shrI .u64 b (32 : Int))))) ∧ (InK .u64 ((shrI .u64 a (32 : Int)) * (shrI .u64 b (32 : Int)))) ∧ (InK .u64 (((shrI .u64 a (32 : Int)) * (shrI .u64 b (32 : Int))) + (shrI .u64 (((shrI .u64 a (32 : Int)) * (vbits .and .u64 b (4294967295 : Int))) + (shrI .u64 ((vbits .and .u64 a (4294967295 : Int)) * (vbits .and .u64 b (4294967295 : Int))) (32 : Int))) (32 : Int)))) ∧ (0 ≤ (32 : Int)) ∧ (InK .u64 ((((shrI .u64 a (32 : Int)) * (shrI .u64 b (32 : Int))) + (shrI .u64 (((shrI .u64 a (32 : Int)) * (vbits .and .u64 b (4294967295 : Int))) + (shrI .u64 ((vbits .and .u64 a (4294967295 : Int)) * (vbits .and .u64 b (4294967295 : Int))) (32 : Int))) (32 : Int))) + (shrI .u64 ((vbits .and .u64 (((shrI .u64 a (32 : Int)) * (vbits .and .u64 b (4294967295 : Int))) + (shrI .u64 ((vbits .and .u64 a (4294967295 : Int)) * (vbits .and .u64 b (4294967295 : Int))) (32 : Int))) (4294967295 : Int)) + ((vbits .and .u64 a (4294967295 : Int)) * (shrI .u64 b (32 : Int)))) (32 : Int)))) ∧ (InK .u64 (a * b)) ∧ ((((((shrI .u64 a (32 : Int)) * (shrI .u64 b (32 : Int))) + (shrI .u64 (((shrI .u64 a (32 : Int)) * (vbits .and .u64 b (4294967295 : Int))) + (shrI .u64 ((vbits .and .u64 a (4294967295 : Int)) * (vbits .and .u64 b (4294967295 : Int))) (32 : Int))) (32 : Int))) + (shrI .u64 ((vbits .and .u64 (((shrI .u64 a (32 : Int)) * (vbits .and .u64 b (4294967295 : Int))) + (shrI .u64 ((vbits .and .u64 a (4294967295 : Int)) * (vbits .and .u64 b (4294967295 : Int))) (32 : Int))) (4294967295 : Int)) + ((vbits .and .u64 a (4294967295 : Int)) * (shrI .u64 b (32 : Int)))) (32 : Int))) = (0 : Int) ∧ (a * b) = (a * b) ∧ (([] : List SV) = [])) ∧ (True))
def cx_math_bits_Mul64 : Cx:=⟨[],[],51,[],0,[],[],[],[],false,[],[],[]⟩
def lp_math_bits_Mul64 (a : Int) (b : Int) : List (Nat × LoopAnn):=[]
set_option maxRecDepth 100000 in
theorem vq_math_bits_Mul64 (d : Int × Int) : gwp (cx_math_bits_Mul64) (lp_math_bits_Mul64 d.1 d.2) c132 0 (gend [.tmp 4,.tmp 5] (res_math_bits_Mul64 d) (obs_math_bits_Mul64 d)) (gstart 51 (AL.can al_math_bits_Mul64 d)) = vc_math_bits_Mul64 d.1 d.2:=by kernel_rfl
abbrev Ok_math_bits_Mul64 : Prop:=OkC Tryz.prog 132 s_math_bits_Mul64
theorem mk_math_bits_Mul64 (h : ∀ (a : Int) (b : Int),(0 ≤ a ∧ a ≤ 65535 ∧ 0 ≤ b ∧ b ≤ 65535) → vc_math_bits_Mul64 a b) : OkC Tryz.prog 132 s_math_bits_Mul64 :=
 okC_vc fun132 mixed (C:=cx_math_bits_Mul64) (V:=fun (d : Int × Int)=>vc_math_bits_Mul64 d.1 d.2) ⟨.nil,XsOk.nil,ItsOk.nil,YlOk.nil,IysOk.nil⟩ (vq_math_bits_Mul64) fun d hp=>h d.1 d.2 hp
theorem wrap_u64 {x : Nat} (h : x < 18446744073709551616) : IntKind.wrap .u64 (x : Int) = x:=by
 have e : ((x : Int) % (18446744073709551616 : Int)) = x:=by omega
 show (if (false && decide ((x : Int) % (18446744073709551616 : Int) ≥ 9223372036854775808)) = true then (x : Int) % (18446744073709551616 : Int) - 18446744073709551616 else (x : Int) % (18446744073709551616 : Int)) = x
 simp only [e,Bool.false_and,Bool.false_eq_true,if_false]
theorem vmask_u64 {x : Nat} (h : x ≤ 4294967295) : vbits .and .u64 (x : Int) 4294967295 = x:=by
 have e : (BitVec.ofInt 64 (x : Int) &&& BitVec.ofInt 64 (4294967295 : Int)).toNat = x:=by
  rw [BitVec.toNat_and,toNat_ofInt (by omega),show (4294967295 : Int) = ((4294967295 : Nat) : Int) from rfl,toNat_ofInt (by omega)]
  have:=Nat.and_two_pow_sub_one_eq_mod x 32
  simp only [Nat.reducePow,Nat.add_one_sub_one] at this
  rw [this]; omega
 show IntKind.wrap .u64 ((BitVec.ofInt 64 (x : Int) &&& BitVec.ofInt 64 (4294967295 : Int)).toNat : Int) = _
 rw [e,wrap_u64 (by omega)]
theorem shr32_u64 {x : Nat} (h : x ≤ 4294967295) : shrI .u64 (x : Int) 32 = 0:=by
 have : Nat.min (Int.toNat 32) 64 = 32:=rfl
 simp only [shrI,IntKind.bits,this]
 rw [Int.fdiv_eq_ediv_of_nonneg _ (Int.le_of_lt (Int.pow_pos (by omega)))]
 omega
theorem ok_math_bits_Mul64 : Ok_math_bits_Mul64:=mk_math_bits_Mul64 fun a b h=>by
 obtain ⟨h1,h2,h3,h4⟩:=h
 obtain ⟨x,rfl⟩:=Int.eq_ofNat_of_zero_le h1
 obtain ⟨y,rfl⟩:=Int.eq_ofNat_of_zero_le h3
 have hxy : x * y ≤ 65535 * 65535:=Nat.mul_le_mul (by omega) (by omega)
 have e0 : ((0 : Nat) : Int) = 0:=rfl
 have s0:=shr32_u64 (x:=0) (by omega)
 have m0:=vmask_u64 (x:=0) (by omega)
 rw [e0] at s0 m0
 have s3:=shr32_u64 (x:=x * y) (by omega)
 have e1 : (x : Int) * (y : Int) = ((x * y : Nat) : Int):=by norm_cast
 unfold vc_math_bits_Mul64; (try delta lI gD sT I64); simp only [and_true,vmask_u64 (show x ≤ 4294967295 by omega),vmask_u64 (show y ≤ 4294967295 by omega),shr32_u64 (show x ≤ 4294967295 by omega),shr32_u64 (show y ≤ 4294967295 by omega),e1,s3,Int.zero_mul,Int.mul_zero,Int.add_zero,m0,s0,InK_u64]
 and_intros <;> omega
def al_math_bits_Mul : AL (Int × Int):=(.cons (.k (.i .u64)) (.one (.k (.i .u64))))
def pre_math_bits_Mul (d : Int × Int) : Prop:=0 ≤ d.1 ∧ d.1 ≤ 65535 ∧ 0 ≤ d.2 ∧ d.2 ≤ 65535
def res_math_bits_Mul (d : Int × Int) : SV:=.tup [.val (.i .u64) (0 : Int),.val (.i .u64) (d.1 * d.2)]
def obs_math_bits_Mul (d : Int × Int) : List OB:=[]
def s_math_bits_Mul : CSp:=mkSp al_math_bits_Mul pre_math_bits_Mul res_math_bits_Mul obs_math_bits_Mul
def vc_math_bits_Mul (a : Int) (b : Int) : Prop :=
 (false = true →
  (InK .u32 a) ∧ (InK .u32 b) ∧ (False) ∧ (InK .u64 (0 : Int)) ∧ (InK .u64 (0 : Int)) ∧ (((0 : Int) = (0 : Int) ∧ (0 : Int) = (a * b) ∧ (([] : List SV) = [])) ∧ (True))) ∧
 (false = false →
  (0 ≤ a ∧ a ≤ 65535 ∧ 0 ≤ b ∧ b ≤ 65535) ∧ (((0 : Int) = (0 : Int) ∧ (a * b) = (a * b) ∧ (([] : List SV) = [])) ∧ (True)))
def cx_math_bits_Mul : Cx:=⟨[],[(131,s_math_bits_Mul32),(132,s_math_bits_Mul64)],30,[],0,[],[],[],[],false,[],[],[]⟩
def lp_math_bits_Mul (a : Int) (b : Int) : List (Nat × LoopAnn):=[]
set_option maxRecDepth 100000 in
theorem vq_math_bits_Mul (d : Int × Int) : gwp (cx_math_bits_Mul) (lp_math_bits_Mul d.1 d.2) c103 0 (gend [.tmp 4,.tmp 5] (res_math_bits_Mul d) (obs_math_bits_Mul d)) (gstart 30 (AL.can al_math_bits_Mul d)) = vc_math_bits_Mul d.1 d.2:=by kernel_rfl
abbrev Ok_math_bits_Mul : Prop:=OkC Tryz.prog 103 s_math_bits_Mul
theorem mk_math_bits_Mul (h : ∀ (a : Int) (b : Int),(0 ≤ a ∧ a ≤ 65535 ∧ 0 ≤ b ∧ b ≤ 65535) → vc_math_bits_Mul a b) : OkC Tryz.prog 103 s_math_bits_Mul :=
 okC_vc fun103 mixed (C:=cx_math_bits_Mul) (V:=fun (d : Int × Int)=>vc_math_bits_Mul d.1 d.2) ⟨(.cons ok_math_bits_Mul32 (.cons ok_math_bits_Mul64 .nil)),XsOk.nil,ItsOk.nil,YlOk.nil,IysOk.nil⟩ (vq_math_bits_Mul) fun d hp=>h d.1 d.2 hp
theorem ok_math_bits_Mul : Ok_math_bits_Mul:=mk_math_bits_Mul fun a b h=>by
 simp only [vc_math_bits_Mul]
 exact ⟨fun h=>by simp at h,fun _=>⟨h,(by and_intros <;> first | rfl | trivial | simp)⟩⟩
def al_slices_Repeat_int_int : AL (List Int × Int):=(.cons (.k (.list (.i .i64))) (.one (.k (.i .i64))))
def pre_slices_Repeat_int_int (d : List Int × Int) : Prop:=d.1.length ≤ 1000 ∧ 0 ≤ d.2 ∧ d.2 ≤ 1000
def res_slices_Repeat_int_int (d : List Int × Int) : SV:=.lst 0
def obs_slices_Repeat_int_int (d : List Int × Int) : List OB:=[.lst 3 (.i .i64) (repL d.1 d.2.toNat) false]
def s_slices_Repeat_int_int : CSp:=mkSp al_slices_Repeat_int_int pre_slices_Repeat_int_int res_slices_Repeat_int_int obs_slices_Repeat_int_int
def vc_slices_Repeat_int_int (l : List Int) (n : Int) : Prop :=
 ((decide (n < (0 : Int))) = true →
  False) ∧
 ((decide (n < (0 : Int))) = false →
  (InK .u64 (lI l)) ∧ (InK .u64 n) ∧ (0 ≤ (lI l) ∧ (lI l) ≤ 65535 ∧ 0 ≤ n ∧ n ≤ 65535) ∧ (((decide ((0 : Int) > (0 : Int))) || (decide (((lI l) * n) > (9223372036854775807 : Int)))) = true →
   False) ∧
  (((decide ((0 : Int) > (0 : Int))) || (decide (((lI l) * n) > (9223372036854775807 : Int)))) = false →
   (I64 ((lI l) * n)) ∧ (0 ≤ ((lI l) * n)) ∧ (((lI l) * n) ≤ ((lI l) * n)) ∧ (((lI l) * n) * 8 ≤ 70368744177664) ∧ (((lI l) * n) ≤ 70368744177664) ∧ ∃ (e2 : Unit) (d20 : (List Int) × Int),((True ∧ ((Nat.min (List.length l) (List.length (List.replicate (Int.toNat ((lI l) * n)) (0 : Int))) : Nat) : Int) = d20.2 ∧ True) ∧ ((((List.take (List.length (List.replicate (Int.toNat ((lI l) * n)) (0 : Int))) l) ++ (List.drop (List.length l) (List.replicate (Int.toNat ((lI l) * n)) (0 : Int)))) = d20.1 ∧ false = false) ∧ True)) ∧
   LoopP (fun (d2 : (List Int) × Int) (q2 : ((List Int) × Int) → Prop) =>
    ((decide (d2.2 < (lI d2.1))) = true →
     (0 ≤ d2.2) ∧ (d2.2 ≤ (lI d2.1)) ∧ ((lI d2.1) ≤ (List.length d2.1)) ∧ (0 ≤ (0 : Int)) ∧ ((0 : Int) ≤ d2.2) ∧ (d2.2 ≤ (List.length d2.1)) ∧ (I64 (d2.2 + ((Nat.min (List.length (List.take (Int.toNat (d2.2 - (0 : Int))) (List.drop (Int.toNat (0 : Int)) d2.1))) (Int.toNat ((lI d2.1) - d2.2)) : Nat) : Int))) ∧ (∃ d3 : (List Int) × Int,((True ∧ (d2.2 + ((Nat.min (List.length (List.take (Int.toNat (d2.2 - (0 : Int))) (List.drop (Int.toNat (0 : Int)) d2.1))) (Int.toNat ((lI d2.1) - d2.2)) : Nat) : Int)) = d3.2 ∧ True) ∧ ((((List.take (Int.toNat d2.2) d2.1) ++ ((List.take (Int.toNat ((lI d2.1) - d2.2)) (List.take (Int.toNat (d2.2 - (0 : Int))) (List.drop (Int.toNat (0 : Int)) d2.1))) ++ (List.drop ((Int.toNat d2.2) + Nat.min (List.length (List.take (Int.toNat (d2.2 - (0 : Int))) (List.drop (Int.toNat (0 : Int)) d2.1))) (Int.toNat ((lI d2.1) - d2.2))) d2.1))) = d3.1 ∧ false = false) ∧ True)) ∧ q2 d3)) ∧
    ((decide (d2.2 < (lI d2.1))) = false →
     (True ∧ ((d2.1 = (repL l n.toNat) ∧ false = false) ∧ True)))) d20))
def cx_slices_Repeat_int_int : Cx:=⟨[(3,(.i .i64))],[(103,s_math_bits_Mul)],48,[],0,[],[],[],[],false,[],[],[]⟩
def lp_slices_Repeat_int_int (l : List Int) (n : Int) : List (Nat × LoopAnn):=[(0,⟨Unit,(List Int) × Int,[7,8],fun e x=>[.lst 30,.val (.i .i64) x.2],fun e x=>[(30,.slot 7,.lst 3 (.i .i64) x.1 false)]⟩)]
set_option maxRecDepth 100000 in
theorem vq_slices_Repeat_int_int (d : List Int × Int) : gwp (cx_slices_Repeat_int_int) (lp_slices_Repeat_int_int d.1 d.2) c68 0 (gend [.tmp 4] (res_slices_Repeat_int_int d) (obs_slices_Repeat_int_int d)) (gstart 48 (AL.can al_slices_Repeat_int_int d)) = vc_slices_Repeat_int_int d.1 d.2:=by kernel_rfl
abbrev Ok_slices_Repeat_int_int : Prop:=OkC Tryz.prog 68 s_slices_Repeat_int_int
theorem mk_slices_Repeat_int_int (h : ∀ (l : List Int) (n : Int),(l.length ≤ 1000 ∧ 0 ≤ n ∧ n ≤ 1000) → vc_slices_Repeat_int_int l n) : OkC Tryz.prog 68 s_slices_Repeat_int_int :=
 okC_vc fun68 mixed (C:=cx_slices_Repeat_int_int) (V:=fun (d : List Int × Int)=>vc_slices_Repeat_int_int d.1 d.2) ⟨(.cons ok_math_bits_Mul .nil),XsOk.nil,ItsOk.nil,YlOk.nil,IysOk.nil⟩ (vq_slices_Repeat_int_int) fun d hp=>h d.1 d.2 hp
theorem ok_slices_Repeat_int_int : Ok_slices_Repeat_int_int:=mk_slices_Repeat_int_int fun l n h=>by
 obtain ⟨h1,h2,h3⟩:=h
 obtain ⟨m,rfl⟩:=Int.eq_ofNat_of_zero_le h2
 have hlm : l.length * m ≤ 1000 * 1000:=Nat.mul_le_mul h1 (by omega)
 have e1 : (l.length : Int) * (m : Int) = ((l.length * m : Nat) : Int):=by norm_cast
 unfold vc_slices_Repeat_int_int; (try delta lI gD sT I64); simp only [true_and,and_true,exists_const,decide_eq_true_eq,decide_eq_false_iff_not,Int.toNat_natCast,gt_iff_lt,e1,InK_i64,InK_u64,Int.sub_zero,List.length_replicate,Int.toNat_zero,List.drop_zero]
 refine ⟨by omega,fun _=>⟨by omega,by omega,by omega,fun h=>?_,fun h=>⟨by omega,by omega,by omega,by omega,by omega,?_⟩⟩⟩
 ·simp at h; omega
 refine ⟨(_,_),(by and_intros <;> first | rfl | trivial | simp),?_⟩
 refine ⟨fun d=>∃ k : Nat,d.2 = k ∧ RepI l m d.1 k,fun d=>d.1.length - d.2.toNat,⟨_,rfl,repI_zero l m _⟩,?_⟩
 rintro ⟨xs,_⟩ ⟨k,rfl,hI⟩
 dsimp only at hI ⊢
 have hxl:=hI.1
 have hk:=hI.2.1
 refine ⟨fun hlt=>?_,fun hge=>?_⟩
 ·have hlt : k < xs.length:=by omega
  obtain ⟨g1,g2⟩:=repI_step hI hlt
  have e2 : ((xs.length : Int) - (k : Int)).toNat = xs.length - k:=by omega
  have g3:=g1.2.1
  have g4:=g1.1
  have hc : Nat.min (List.take k xs).length (xs.length - k) ≤ 1000000:=by have : Nat.min (List.take k xs).length (xs.length - k) ≤ _:=Nat.min_le_left _ _; simp only [List.length_take] at this ⊢; omega
  simp only [Int.toNat_natCast,e2]
  generalize Nat.min (List.take k xs).length (xs.length - k) = c at g1 g2 g3 g4 hc ⊢
  refine ⟨by omega,by omega,by omega,by omega,by omega,by omega,⟨by omega,by omega⟩,(_,((k + c : Nat) : Int)),(by and_intros <;> first | rfl | trivial | omega),⟨_,rfl,g1⟩,?_⟩
  dsimp only
  rw [g4]; omega
 ·have:=repI_end hI (by omega)
  rw [this]
def al_tie_Make : AL (Int × List (Int × Int × Int × Int)):=(.cons (.k (.i .i64)) (.one (.k (.list (.pair (.i .i64) (.pair (.i .i64) (.pair (.i .i64) (.i .i64))))))))
def pre_tie_Make (d : Int × List (Int × Int × Int × Int)) : Prop:=d.2.length ≤ 1000
def res_tie_Make (d : Int × List (Int × Int × Int × Int)) : SV:=.tup [.agg [.val (.i .i64) (if mkErr d.1 d.2 = 0 then d.1 else 0),.lst 0],.val (.i .i64) (mkI d.1 d.2),.val (.i .i64) (mkErr d.1 d.2)]
def obs_tie_Make (d : Int × List (Int × Int × Int × Int)) : List OB:=[.lst 3 (.i .i64) (if mkErr d.1 d.2 = 0 then mkW d.2 else []) ((if mkErr d.1 d.2 = 0 then mkW d.2 else []).isEmpty)]
def s_tie_Make : CSp:=mkSp al_tie_Make pre_tie_Make res_tie_Make obs_tie_Make
def vc_tie_Make (hk : Int) (g : List (Int × Int × Int × Int)) : Prop :=
 ([hk].length ≤ 1000000) ∧ ((!(!([hk].any fun n=>decide (n < (1 : Int)) || decide ((24 : Int) < n)))) = true →
  ((((0 : Int) = (if mkErr hk g = 0 then hk else 0) ∧ True ∧ (([] : List SV) = [])) ∧ (0 : Int) = (mkI hk g) ∧ (2 : Int) = (mkErr hk g) ∧ (([] : List SV) = [])) ∧ (((if mkErr hk g = 0 then mkW g else []) = [] ∧ (if mkErr hk g = 0 then mkW g else []).isEmpty = true) ∧ True))) ∧
 ((!(!([hk].any fun n=>decide (n < (1 : Int)) || decide ((24 : Int) < n)))) = false →
  ((decide ((lI g) > (8 : Int))) = true →
   ((((0 : Int) = (if mkErr hk g = 0 then hk else 0) ∧ True ∧ (([] : List SV) = [])) ∧ (0 : Int) = (mkI hk g) ∧ (5 : Int) = (mkErr hk g) ∧ (([] : List SV) = [])) ∧ (((if mkErr hk g = 0 then mkW g else []) = [] ∧ (if mkErr hk g = 0 then mkW g else []).isEmpty = true) ∧ True))) ∧
  ((decide ((lI g) > (8 : Int))) = false →
   (((lI g) == (0 : Int)) = true →
    ((((0 : Int) = (if mkErr hk g = 0 then hk else 0) ∧ True ∧ (([] : List SV) = [])) ∧ (0 : Int) = (mkI hk g) ∧ (7 : Int) = (mkErr hk g) ∧ (([] : List SV) = [])) ∧ (((if mkErr hk g = 0 then mkW g else []) = [] ∧ (if mkErr hk g = 0 then mkW g else []).isEmpty = true) ∧ True))) ∧
   (((lI g) == (0 : Int)) = false →
    ∃ (e4 : Unit) (d40 : (List Int) × Int),((hk = hk ∧ True ∧ True ∧ g = g ∧ (lI g) = (lI g) ∧ (0 : Int) = d40.2 ∧ True) ∧ (((0 : Int) = (0 : Int) ∧ True ∧ (([] : List SV) = [])) ∧ (d40.1 = [] ∧ (List.isEmpty d40.1) = true) ∧ True)) ∧
    LoopP (fun (d4 : (List Int) × Int) (q4 : ((List Int) × Int) → Prop) =>
     ((decide (d4.2 < (lI g))) = true →
      (0 ≤ d4.2) ∧ (d4.2 < (List.length g)) ∧ (I64 (hk - (1 : Int))) ∧ ([(gD g d4.2 (0,(0,(0,0)))).1,(gD g d4.2 (0,(0,(0,0)))).2.1].length ≤ 1000000) ∧ (((!(!([(gD g d4.2 (0,(0,(0,0)))).1,(gD g d4.2 (0,(0,(0,0)))).2.1].any fun n=>decide (n < (0 : Int)) || decide ((hk - (1 : Int)) < n)))) || (((gD g d4.2 (0,(0,(0,0)))).2.2.1 != (1 : Int)) && ((gD g d4.2 (0,(0,(0,0)))).2.2.1 != (2 : Int)))) = false → True) ∧ (((!(!([(gD g d4.2 (0,(0,(0,0)))).1,(gD g d4.2 (0,(0,(0,0)))).2.1].any fun n=>decide (n < (0 : Int)) || decide ((hk - (1 : Int)) < n)))) || (((gD g d4.2 (0,(0,(0,0)))).2.2.1 != (1 : Int)) && ((gD g d4.2 (0,(0,(0,0)))).2.2.1 != (2 : Int)))) = false → [(gD g d4.2 (0,(0,(0,0)))).2.2.2].length ≤ 1000000) ∧ ((((!(!([(gD g d4.2 (0,(0,(0,0)))).1,(gD g d4.2 (0,(0,(0,0)))).2.1].any fun n=>decide (n < (0 : Int)) || decide ((hk - (1 : Int)) < n)))) || (((gD g d4.2 (0,(0,(0,0)))).2.2.1 != (1 : Int)) && ((gD g d4.2 (0,(0,(0,0)))).2.2.1 != (2 : Int)))) || (!(!([(gD g d4.2 (0,(0,(0,0)))).2.2.2].any fun n=>decide (n < (1 : Int)) || decide ((8 : Int) < n))))) = true →
       ((((0 : Int) = (if mkErr hk g = 0 then hk else 0) ∧ True ∧ (([] : List SV) = [])) ∧ d4.2 = (mkI hk g) ∧ (2 : Int) = (mkErr hk g) ∧ (([] : List SV) = [])) ∧ (((if mkErr hk g = 0 then mkW g else []) = [] ∧ (if mkErr hk g = 0 then mkW g else []).isEmpty = true) ∧ True))) ∧
      ((((!(!([(gD g d4.2 (0,(0,(0,0)))).1,(gD g d4.2 (0,(0,(0,0)))).2.1].any fun n=>decide (n < (0 : Int)) || decide ((hk - (1 : Int)) < n)))) || (((gD g d4.2 (0,(0,(0,0)))).2.2.1 != (1 : Int)) && ((gD g d4.2 (0,(0,(0,0)))).2.2.1 != (2 : Int)))) || (!(!([(gD g d4.2 (0,(0,(0,0)))).2.2.2].any fun n=>decide (n < (1 : Int)) || decide ((8 : Int) < n))))) = false →
       (0 ≤ ((gD g d4.2 (0,(0,(0,0)))).1) ∧ ((gD g d4.2 (0,(0,(0,0)))).1) < 24 ∧ 0 ≤ ((gD g d4.2 (0,(0,(0,0)))).2.1) ∧ ((gD g d4.2 (0,(0,(0,0)))).2.1) < 24) ∧ (false = true → (hooksG ((gD g d4.2 (0,(0,(0,0)))).1) ((gD g d4.2 (0,(0,(0,0)))).2.1) ((gD g d4.2 (0,(0,(0,0)))).2.2.1)) = []) ∧ ((hooksG ((gD g d4.2 (0,(0,(0,0)))).1) ((gD g d4.2 (0,(0,(0,0)))).2.1) ((gD g d4.2 (0,(0,(0,0)))).2.2.1)).length ≤ 1000 ∧ 0 ≤ ((gD g d4.2 (0,(0,(0,0)))).2.2.2) ∧ ((gD g d4.2 (0,(0,(0,0)))).2.2.2) ≤ 1000) ∧ (false = true → (repL (hooksG ((gD g d4.2 (0,(0,(0,0)))).1) ((gD g d4.2 (0,(0,(0,0)))).2.1) ((gD g d4.2 (0,(0,(0,0)))).2.2.1)) ((gD g d4.2 (0,(0,(0,0)))).2.2.2).toNat) = []) ∧ (((List.length d4.1) + (List.length (repL (hooksG ((gD g d4.2 (0,(0,(0,0)))).1) ((gD g d4.2 (0,(0,(0,0)))).2.1) ((gD g d4.2 (0,(0,(0,0)))).2.2.1)) ((gD g d4.2 (0,(0,(0,0)))).2.2.2).toNat))) * 8 ≤ 70368744177664) ∧ ((decide ((lI (d4.1 ++ (repL (hooksG ((gD g d4.2 (0,(0,(0,0)))).1) ((gD g d4.2 (0,(0,(0,0)))).2.1) ((gD g d4.2 (0,(0,(0,0)))).2.2.1)) ((gD g d4.2 (0,(0,(0,0)))).2.2.2).toNat))) > (96 : Int))) = true →
        ((((0 : Int) = (if mkErr hk g = 0 then hk else 0) ∧ True ∧ (([] : List SV) = [])) ∧ d4.2 = (mkI hk g) ∧ (8 : Int) = (mkErr hk g) ∧ (([] : List SV) = [])) ∧ (((if mkErr hk g = 0 then mkW g else []) = [] ∧ (if mkErr hk g = 0 then mkW g else []).isEmpty = true) ∧ True))) ∧
       ((decide ((lI (d4.1 ++ (repL (hooksG ((gD g d4.2 (0,(0,(0,0)))).1) ((gD g d4.2 (0,(0,(0,0)))).2.1) ((gD g d4.2 (0,(0,(0,0)))).2.2.1)) ((gD g d4.2 (0,(0,(0,0)))).2.2.2).toNat))) > (96 : Int))) = false →
        (I64 (d4.2 + (1 : Int))) ∧ (∃ d5 : (List Int) × Int,((hk = hk ∧ True ∧ True ∧ g = g ∧ (lI g) = (lI g) ∧ (d4.2 + (1 : Int)) = d5.2 ∧ True) ∧ (((0 : Int) = (0 : Int) ∧ True ∧ (([] : List SV) = [])) ∧ ((d4.1 ++ (repL (hooksG ((gD g d4.2 (0,(0,(0,0)))).1) ((gD g d4.2 (0,(0,(0,0)))).2.1) ((gD g d4.2 (0,(0,(0,0)))).2.2.1)) ((gD g d4.2 (0,(0,(0,0)))).2.2.2).toNat)) = d5.1 ∧ ((List.isEmpty (repL (hooksG ((gD g d4.2 (0,(0,(0,0)))).1) ((gD g d4.2 (0,(0,(0,0)))).2.1) ((gD g d4.2 (0,(0,(0,0)))).2.2.1)) ((gD g d4.2 (0,(0,(0,0)))).2.2.2).toNat)) && (List.isEmpty d4.1)) = (List.isEmpty d5.1)) ∧ True)) ∧ q4 d5)))) ∧
     ((decide (d4.2 < (lI g))) = false →
      (((hk = (if mkErr hk g = 0 then hk else 0) ∧ True ∧ (([] : List SV) = [])) ∧ (0 : Int) = (mkI hk g) ∧ (0 : Int) = (mkErr hk g) ∧ (([] : List SV) = [])) ∧ ((d4.1 = (if mkErr hk g = 0 then mkW g else []) ∧ (List.isEmpty d4.1) = (if mkErr hk g = 0 then mkW g else []).isEmpty) ∧ True)))) d40)))
def cx_tie_Make : Cx:=⟨[(3,(.i .i64))],[(67,s_tie_within),(69,s_tie_group_hooks),(68,s_slices_Repeat_int_int)],78,[],0,[],[],[],[],false,[],[],[]⟩
def lp_tie_Make (hk : Int) (g : List (Int × Int × Int × Int)) : List (Nat × LoopAnn):=[(1,⟨Unit,(List Int) × Int,[0,4,7,26,27,28],fun e x=>[.val (.i .i64) hk,.box 4 0,.lst 68,.val (.list (.pair (.i .i64) (.pair (.i .i64) (.pair (.i .i64) (.i .i64))))) g,.val (.i .i64) (((List.length g) : Nat) : Int),.val (.i .i64) x.2],fun e x=>[(4,.slot 4,.cells [.val (.i .i64) (0 : Int),.nilS] (some 26)),(68,.slot 7,.lst 3 (.i .i64) x.1 (List.isEmpty x.1))]⟩)]
set_option maxRecDepth 100000 in
theorem vq_tie_Make (d : Int × List (Int × Int × Int × Int)) : gwp (cx_tie_Make) (lp_tie_Make d.1 d.2) c15 0 (gend [.cell 4 true 2,.tmp 5,.tmp 6] (res_tie_Make d) (obs_tie_Make d)) (gstart 78 (AL.can al_tie_Make d)) = vc_tie_Make d.1 d.2:=by kernel_rfl
abbrev Ok_tie_Make : Prop:=OkC Tryz.prog 15 s_tie_Make
theorem mk_tie_Make (h : ∀ (hk : Int) (g : List (Int × Int × Int × Int)),(g.length ≤ 1000) → vc_tie_Make hk g) : OkC Tryz.prog 15 s_tie_Make :=
 okC_vc fun15 mixed (C:=cx_tie_Make) (V:=fun (d : Int × List (Int × Int × Int × Int))=>vc_tie_Make d.1 d.2) ⟨(.cons ok_tie_within (.cons ok_tie_group_hooks (.cons ok_slices_Repeat_int_int .nil))),XsOk.nil,ItsOk.nil,YlOk.nil,IysOk.nil⟩ (vq_tie_Make) fun d hp=>h d.1 d.2 hp
theorem ok_tie_Make : Ok_tie_Make:=mk_tie_Make fun hk g hg=>by
 unfold vc_tie_Make; (try delta lI gD sT I64)
 (try simp only [decide_eq_true_eq,decide_eq_false_iff_not])
 have ea : ∀ n : Int,(!(!([n].any fun n=>decide (n < 1) || decide (24 < n)))) = !inI n 1 24:=fun n=>by rw [Bool.eq_iff_iff]; simp [inI] <;> omega
 simp only [ea,mkBad_any]
 refine ⟨by simp,fun h=>?_,fun h=>⟨fun h2=>?_,fun h2=>⟨fun h3=>?_,fun h3=>?_⟩⟩⟩
 ·have h : inI hk 1 24 = false:=by simpa using h
  simp [mkErr,mkI,h]
 ·have h : inI hk 1 24 = true:=by simpa using h
  have h2 : 8 < g.length:=by omega
  simp [mkErr,mkI,h,h2]
 ·have h : inI hk 1 24 = true:=by simpa using h
  have h3 : g = []:=by simpa using h3
  subst h3
  simp [mkErr,mkI,h,mkAt]
 have h : inI hk 1 24 = true:=by simpa using h
 have h3 : ¬ g.length = 0:=by simpa using h3
 have hh : 1 ≤ hk ∧ hk ≤ 24:=by simpa [inI] using h
 obtain ⟨hE,hI⟩:=mkErr_mkI h (by omega) h3
 refine ⟨(),([],0),(by and_intros <;> first | rfl | trivial | simp),?_⟩
 refine LoopP.count2 g.length (fun i ws=>ws = mkW (g.take i) ∧ ∀ j,j < i → mkStop hk g j = false) ⟨by simp [mkW],fun j hj=>by omega⟩ fun i ws hi hJ q hq=>?_
 obtain ⟨rfl,hJ⟩:=hJ
 have hl:=mkLen hi hJ
 dsimp only
 simp only [Int.toNat_natCast,InK_i64]
 refine ⟨fun hlt=>?_,fun hge=>?_⟩
 ·have hlt : i < g.length:=by omega
  generalize hx : g.getD i (0,(0,(0,0))) = x
  obtain ⟨a,b,c,t⟩:=x
  dsimp only
  refine ⟨by omega,by omega,by omega,by simp,fun _=>trivial,fun _=>by simp,fun hb=>?_,fun hb=>?_⟩
  ·have hs : mkAt hk g = some i:=mkAt_some hlt (by rw [mkStop,hx,hb]; rfl) hJ
   simp only [hs,hx,hb,if_true] at hE hI
   simp [hE,hI]
  ·obtain ⟨b1,b2,b3,b4,b5⟩:=mkBad_false hb h
   dsimp only at b1 b2 b3 b4 b5
   have hg:=hooksG_length (wy:=c) b1
   have ht : mkW (g.take (i + 1)) = mkW (g.take i) ++ mkOne (a,b,c,t):=by rw [mkW_take hlt,hx]
   have ho : (mkOne (a,b,c,t)).length ≤ 1000:=by
    show (repL (hooksG a b c) t.toNat).length ≤ 1000
    rw [repL_length]
    have : (hooksG a b c).length * t.toNat ≤ 48 * 8:=Nat.mul_le_mul (by omega) (by omega)
    omega
   have ho' : (repL (hooksG a b c) t.toNat).length ≤ 1000:=ho
   have ht2 : mkW (g.take (i + 1)) = mkW (g.take i) ++ repL (hooksG a b c) t.toNat:=ht
   rw [isEmpty_app,← ht2]
   refine ⟨b1,(fun hf=>by cases hf),⟨by omega,by omega,by omega⟩,(fun hf=>by cases hf),by omega,fun hgt=>?_,fun hle=>?_⟩
   ·have h96 : 96 < (mkW (g.take (i + 1))).length:=by omega
    have hs : mkAt hk g = some i:=mkAt_some hlt (by simp [mkStop,h96]) hJ
    simp only [hs,hx,hb,if_false,Bool.false_eq_true] at hE hI
    simp [hE,hI]
   ·refine ⟨by omega,(mkW (g.take (i + 1)),(i : Int) + 1),(by and_intros <;> first | rfl | trivial | simp),hq _ hlt ⟨rfl,fun j hj=>?_⟩⟩
    rcases Nat.lt_succ_iff_lt_or_eq.1 hj with hj | rfl
    ·exact hJ j hj
    ·rw [mkStop,hx,hb,Bool.false_or,decide_eq_false_iff_not]; omega
 ·have : i = g.length:=by omega
  subst this
  have hs:=mkAt_none hJ
  simp only [hs] at hE hI
  simp [hE,hI]
def al_ref03_Make : AL (Int × List (Int × Int × Int × Int)):=(.cons (.k (.i .i64)) (.one (.k (.list (.pair (.i .i64) (.pair (.i .i64) (.pair (.i .i64) (.i .i64))))))))
def pre_ref03_Make (d : Int × List (Int × Int × Int × Int)) : Prop:=d.2.length ≤ 1000
def res_ref03_Make (d : Int × List (Int × Int × Int × Int)) : SV:=.tup [.agg [.val (.i .i64) (if mkErr d.1 d.2 = 0 then d.1 else 0),.lst 0],.val (.i .i64) (mkI d.1 d.2),.val (.i .i64) (mkErr d.1 d.2)]
def obs_ref03_Make (d : Int × List (Int × Int × Int × Int)) : List OB:=[.lst 3 (.i .i64) (if mkErr d.1 d.2 = 0 then mkW d.2 else []) ((if mkErr d.1 d.2 = 0 then mkW d.2 else []).isEmpty)]
def s_ref03_Make : CSp:=mkSp al_ref03_Make pre_ref03_Make res_ref03_Make obs_ref03_Make
def vc_ref03_Make (hk : Int) (g : List (Int × Int × Int × Int)) : Prop :=
 (True) ∧ ((!(inI hk (1 : Int) (24 : Int))) = true →
  ((((0 : Int) = (if mkErr hk g = 0 then hk else 0) ∧ True ∧ (([] : List SV) = [])) ∧ (0 : Int) = (mkI hk g) ∧ (2 : Int) = (mkErr hk g) ∧ (([] : List SV) = [])) ∧ (((if mkErr hk g = 0 then mkW g else []) = [] ∧ (if mkErr hk g = 0 then mkW g else []).isEmpty = true) ∧ True))) ∧
 ((!(inI hk (1 : Int) (24 : Int))) = false →
  ((decide ((lI g) > (8 : Int))) = true →
   ((((0 : Int) = (if mkErr hk g = 0 then hk else 0) ∧ True ∧ (([] : List SV) = [])) ∧ (0 : Int) = (mkI hk g) ∧ (5 : Int) = (mkErr hk g) ∧ (([] : List SV) = [])) ∧ (((if mkErr hk g = 0 then mkW g else []) = [] ∧ (if mkErr hk g = 0 then mkW g else []).isEmpty = true) ∧ True))) ∧
  ((decide ((lI g) > (8 : Int))) = false →
   (((lI g) == (0 : Int)) = true →
    ((((0 : Int) = (if mkErr hk g = 0 then hk else 0) ∧ True ∧ (([] : List SV) = [])) ∧ (0 : Int) = (mkI hk g) ∧ (7 : Int) = (mkErr hk g) ∧ (([] : List SV) = [])) ∧ (((if mkErr hk g = 0 then mkW g else []) = [] ∧ (if mkErr hk g = 0 then mkW g else []).isEmpty = true) ∧ True))) ∧
   (((lI g) == (0 : Int)) = false →
    ∃ (e4 : Unit) (d40 : (List Int) × Int),((hk = hk ∧ g = g ∧ True ∧ True ∧ True ∧ (0 : Int) = d40.2 ∧ True) ∧ (((0 : Int) = (0 : Int) ∧ True ∧ (([] : List SV) = [])) ∧ ((0 : Int) = (0 : Int) ∧ True ∧ (([] : List SV) = [])) ∧ (hk = hk ∧ True ∧ (([] : List SV) = [])) ∧ (d40.1 = [] ∧ (List.isEmpty d40.1) = true) ∧ True)) ∧
    LoopP (fun (d4 : (List Int) × Int) (q4 : ((List Int) × Int) → Prop) =>
     ((decide (d4.2 < (lI g))) = true →
      (0 ≤ d4.2) ∧ (d4.2 < (List.length g)) ∧ (I64 (hk - (1 : Int))) ∧ (True) ∧ ((!(inI ((gD g d4.2 (0,(0,(0,0)))).1) (0 : Int) (hk - (1 : Int)))) = false → InK .i64 (hk - (1 : Int))) ∧ ((!(inI ((gD g d4.2 (0,(0,(0,0)))).1) (0 : Int) (hk - (1 : Int)))) = false → True) ∧ (((!(inI ((gD g d4.2 (0,(0,(0,0)))).1) (0 : Int) (hk - (1 : Int)))) || (!(inI ((gD g d4.2 (0,(0,(0,0)))).2.1) (0 : Int) (hk - (1 : Int))))) = false → True) ∧ ((((!(inI ((gD g d4.2 (0,(0,(0,0)))).1) (0 : Int) (hk - (1 : Int)))) || (!(inI ((gD g d4.2 (0,(0,(0,0)))).2.1) (0 : Int) (hk - (1 : Int))))) || (!(inI ((gD g d4.2 (0,(0,(0,0)))).2.2.1) (1 : Int) (2 : Int)))) = false → True) ∧ (((((!(inI ((gD g d4.2 (0,(0,(0,0)))).1) (0 : Int) (hk - (1 : Int)))) || (!(inI ((gD g d4.2 (0,(0,(0,0)))).2.1) (0 : Int) (hk - (1 : Int))))) || (!(inI ((gD g d4.2 (0,(0,(0,0)))).2.2.1) (1 : Int) (2 : Int)))) || (!(inI ((gD g d4.2 (0,(0,(0,0)))).2.2.2) (1 : Int) (8 : Int)))) = true →
       ((((0 : Int) = (if mkErr hk g = 0 then hk else 0) ∧ True ∧ (([] : List SV) = [])) ∧ d4.2 = (mkI hk g) ∧ (2 : Int) = (mkErr hk g) ∧ (([] : List SV) = [])) ∧ (((if mkErr hk g = 0 then mkW g else []) = [] ∧ (if mkErr hk g = 0 then mkW g else []).isEmpty = true) ∧ True))) ∧
      (((((!(inI ((gD g d4.2 (0,(0,(0,0)))).1) (0 : Int) (hk - (1 : Int)))) || (!(inI ((gD g d4.2 (0,(0,(0,0)))).2.1) (0 : Int) (hk - (1 : Int))))) || (!(inI ((gD g d4.2 (0,(0,(0,0)))).2.2.1) (1 : Int) (2 : Int)))) || (!(inI ((gD g d4.2 (0,(0,(0,0)))).2.2.2) (1 : Int) (8 : Int)))) = false →
       ∃ (e7 : Int × Int × Int × Int × Int) (d70 : (List Int) × Int),((hk = hk ∧ g = g ∧ True ∧ True ∧ True ∧ d4.2 = e7.1 ∧ True ∧ (0 : Int) = d70.2 ∧ True) ∧ (((0 : Int) = (0 : Int) ∧ True ∧ (([] : List SV) = [])) ∧ ((0 : Int) = (0 : Int) ∧ True ∧ (([] : List SV) = [])) ∧ (hk = hk ∧ True ∧ (([] : List SV) = [])) ∧ (d4.1 = d70.1 ∧ (List.isEmpty d4.1) = (List.isEmpty d70.1)) ∧ ((gD g d4.2 (0,(0,(0,0)))).1 = e7.2.1 ∧ (gD g d4.2 (0,(0,(0,0)))).2.1 = e7.2.2.1 ∧ (gD g d4.2 (0,(0,(0,0)))).2.2.1 = e7.2.2.2.1 ∧ (gD g d4.2 (0,(0,(0,0)))).2.2.2 = e7.2.2.2.2 ∧ (([] : List SV) = [])) ∧ True)) ∧
       LoopP (fun (d7 : (List Int) × Int) (q7 : ((List Int) × Int) → Prop) =>
        ((decide (d7.2 < e7.2.2.2.2)) = true →
         (0 ≤ e7.2.1 ∧ e7.2.1 < 24 ∧ 0 ≤ e7.2.2.1 ∧ e7.2.2.1 < 24) ∧ (false = true → (hooksG e7.2.1 e7.2.2.1 e7.2.2.2.1) = []) ∧ (((List.length d7.1) + (List.length (hooksG e7.2.1 e7.2.2.1 e7.2.2.2.1))) * 8 ≤ 70368744177664) ∧ (I64 (d7.2 + (1 : Int))) ∧ (∃ d8 : (List Int) × Int,((hk = hk ∧ g = g ∧ True ∧ True ∧ True ∧ e7.1 = e7.1 ∧ True ∧ (d7.2 + (1 : Int)) = d8.2 ∧ True) ∧ (((0 : Int) = (0 : Int) ∧ True ∧ (([] : List SV) = [])) ∧ ((0 : Int) = (0 : Int) ∧ True ∧ (([] : List SV) = [])) ∧ (hk = hk ∧ True ∧ (([] : List SV) = [])) ∧ ((d7.1 ++ (hooksG e7.2.1 e7.2.2.1 e7.2.2.2.1)) = d8.1 ∧ ((List.isEmpty (hooksG e7.2.1 e7.2.2.1 e7.2.2.2.1)) && (List.isEmpty d7.1)) = (List.isEmpty d8.1)) ∧ (e7.2.1 = e7.2.1 ∧ e7.2.2.1 = e7.2.2.1 ∧ e7.2.2.2.1 = e7.2.2.2.1 ∧ e7.2.2.2.2 = e7.2.2.2.2 ∧ (([] : List SV) = [])) ∧ True)) ∧ q7 d8)) ∧
        ((decide (d7.2 < e7.2.2.2.2)) = false →
         ((decide ((lI d7.1) > (96 : Int))) = true →
          ((((0 : Int) = (if mkErr hk g = 0 then hk else 0) ∧ True ∧ (([] : List SV) = [])) ∧ e7.1 = (mkI hk g) ∧ (8 : Int) = (mkErr hk g) ∧ (([] : List SV) = [])) ∧ (((if mkErr hk g = 0 then mkW g else []) = [] ∧ (if mkErr hk g = 0 then mkW g else []).isEmpty = true) ∧ True))) ∧
         ((decide ((lI d7.1) > (96 : Int))) = false →
          (I64 (e7.1 + (1 : Int))) ∧ (∃ d9 : (List Int) × Int,((hk = hk ∧ g = g ∧ True ∧ True ∧ True ∧ (e7.1 + (1 : Int)) = d9.2 ∧ True) ∧ (((0 : Int) = (0 : Int) ∧ True ∧ (([] : List SV) = [])) ∧ ((0 : Int) = (0 : Int) ∧ True ∧ (([] : List SV) = [])) ∧ (hk = hk ∧ True ∧ (([] : List SV) = [])) ∧ (d7.1 = d9.1 ∧ (List.isEmpty d7.1) = (List.isEmpty d9.1)) ∧ True)) ∧ q4 d9)))) d70)) ∧
     ((decide (d4.2 < (lI g))) = false →
      (((hk = (if mkErr hk g = 0 then hk else 0) ∧ True ∧ (([] : List SV) = [])) ∧ (0 : Int) = (mkI hk g) ∧ (0 : Int) = (mkErr hk g) ∧ (([] : List SV) = [])) ∧ ((d4.1 = (if mkErr hk g = 0 then mkW g else []) ∧ (List.isEmpty d4.1) = (if mkErr hk g = 0 then mkW g else []).isEmpty) ∧ True)))) d40)))
def cx_ref03_Make : Cx:=⟨[(3,(.i .i64))],[(27,s_ref03_In),(70,s_ref03_Hooks)],84,[],0,[],[],[],[],false,[],[],[]⟩
def lp_ref03_Make (hk : Int) (g : List (Int × Int × Int × Int)) : List (Nat × LoopAnn):=[(0,⟨Unit,(List Int) × Int,[0,1,4,7,8,9],fun e x=>[.val (.i .i64) hk,.val (.list (.pair (.i .i64) (.pair (.i .i64) (.pair (.i .i64) (.i .i64))))) g,.box 4 0,.box 7 0,.box 8 0,.val (.i .i64) x.2],fun e x=>[(4,.slot 4,.cells [.val (.i .i64) (0 : Int),.nilS] (some 26)),(7,.slot 7,.cells [.val (.i .i64) (0 : Int),.nilS] (some 26)),(8,.slot 8,.cells [.val (.i .i64) hk,.lst 75] (some 26)),(75,.cell 8 1,.lst 3 (.i .i64) x.1 (List.isEmpty x.1))]⟩),
 (2,⟨Int × Int × Int × Int × Int,(List Int) × Int,[0,1,4,7,8,9,10,11],fun e x=>[.val (.i .i64) hk,.val (.list (.pair (.i .i64) (.pair (.i .i64) (.pair (.i .i64) (.i .i64))))) g,.box 4 0,.box 7 0,.box 8 0,.val (.i .i64) e.1,.box 10 0,.val (.i .i64) x.2],fun e x=>[(4,.slot 4,.cells [.val (.i .i64) (0 : Int),.nilS] (some 26)),(7,.slot 7,.cells [.val (.i .i64) (0 : Int),.nilS] (some 26)),(8,.slot 8,.cells [.val (.i .i64) hk,.lst 75] (some 26)),(75,.cell 8 1,.lst 3 (.i .i64) x.1 (List.isEmpty x.1)),(10,.slot 10,.cells [.val (.i .i64) e.2.1,.val (.i .i64) e.2.2.1,.val (.i .i64) e.2.2.2.1,.val (.i .i64) e.2.2.2.2] (some 32))]⟩)]
set_option maxRecDepth 100000 in
theorem vq_ref03_Make (d : Int × List (Int × Int × Int × Int)) : gwp (cx_ref03_Make) (lp_ref03_Make d.1 d.2) c16 0 (gend [.cell 4 true 2,.tmp 5,.tmp 6] (res_ref03_Make d) (obs_ref03_Make d)) (gstart 84 (AL.can al_ref03_Make d)) = vc_ref03_Make d.1 d.2:=by kernel_rfl
abbrev Ok_ref03_Make : Prop:=OkC Tryz.prog 16 s_ref03_Make
theorem mk_ref03_Make (h : ∀ (hk : Int) (g : List (Int × Int × Int × Int)),(g.length ≤ 1000) → vc_ref03_Make hk g) : OkC Tryz.prog 16 s_ref03_Make :=
 okC_vc fun16 mixed (C:=cx_ref03_Make) (V:=fun (d : Int × List (Int × Int × Int × Int))=>vc_ref03_Make d.1 d.2) ⟨(.cons ok_ref03_In (.cons ok_ref03_Hooks .nil)),XsOk.nil,ItsOk.nil,YlOk.nil,IysOk.nil⟩ (vq_ref03_Make) fun d hp=>h d.1 d.2 hp
theorem ok_ref03_Make : Ok_ref03_Make:=mk_ref03_Make fun hk g hg=>by
 unfold vc_ref03_Make; (try delta lI gD sT I64)
 (try simp only [decide_eq_true_eq,decide_eq_false_iff_not])
 refine ⟨trivial,fun h=>?_,fun h=>⟨fun h2=>?_,fun h2=>⟨fun h3=>?_,fun h3=>?_⟩⟩⟩
 ·have h : inI hk 1 24 = false:=by simpa using h
  simp [mkErr,mkI,h]
 ·have h : inI hk 1 24 = true:=by simpa using h
  have h2 : 8 < g.length:=by omega
  simp [mkErr,mkI,h,h2]
 ·have h : inI hk 1 24 = true:=by simpa using h
  have h3 : g = []:=by simpa using h3
  subst h3
  simp [mkErr,mkI,h,mkAt]
 have h : inI hk 1 24 = true:=by simpa using h
 have h3 : ¬ g.length = 0:=by simpa using h3
 have hh : 1 ≤ hk ∧ hk ≤ 24:=by simpa [inI] using h
 obtain ⟨hE,hI⟩:=mkErr_mkI h (by omega) h3
 refine ⟨(),([],0),(by and_intros <;> first | rfl | trivial | simp),?_⟩
 refine LoopP.count2 g.length (fun i ws=>ws = mkW (g.take i) ∧ ∀ j,j < i → mkStop hk g j = false) ⟨by simp [mkW],fun j hj=>by omega⟩ fun i ws hi hJ q hq=>?_
 obtain ⟨rfl,hJ⟩:=hJ
 have hl:=mkLen hi hJ
 dsimp only
 simp only [Int.toNat_natCast,InK_i64]
 refine ⟨fun hlt=>?_,fun hge=>?_⟩
 ·have hlt : i < g.length:=by omega
  generalize hx : g.getD i (0,(0,(0,0))) = x
  refine ⟨by omega,by omega,by omega,trivial,fun _=>by omega,fun _=>trivial,fun _=>trivial,fun _=>trivial,fun hb=>?_,fun hb=>?_⟩
  ·have hs : mkAt hk g = some i:=mkAt_some hlt (by rw [mkStop,hx,mkBad,hb]; rfl) hJ
   have hb : mkBad hk x = true:=hb
   simp only [hs,hx,hb,if_true] at hE hI
   simp [hE,hI]
  ·have hb : mkBad hk x = false:=hb
   obtain ⟨b1,b2,b3,b4,b5⟩:=mkBad_false hb h
   have hg:=hooksG_length (wy:=x.2.2.1) b1
   have ht : mkW (g.take (i + 1)) = mkW (g.take i) ++ mkOne x:=by rw [mkW_take hlt,hx]
   obtain ⟨a,b,c,t⟩:=x
   dsimp only at *
   refine ⟨((i : Int),a,b,c,t),(mkW (g.take i),0),(by and_intros <;> first | rfl | trivial | simp),?_⟩
   dsimp only
   refine LoopP.count2 t.toNat (fun j ws=>ws = mkW (g.take i) ++ repL (hooksG a b c) j) (by simp [repL]) fun j ws hj hJ2 q2 hq2=>?_
   subst hJ2
   dsimp only
   have hlj : (repL (hooksG a b c) j).length ≤ 48 * 8:=by rw [repL_length]; exact Nat.mul_le_mul (by omega) (by omega)
   simp only [List.length_append]
   refine ⟨fun hlt2=>?_,fun hge2=>?_⟩
   ·refine ⟨b1,(fun hf=>by cases hf),by omega,by omega,(mkW (g.take i) ++ repL (hooksG a b c) j ++ hooksG a b c,(j : Int) + 1),?_,hq2 _ (by omega) ?_⟩
    ·(simp only [isEmpty_app]; and_intros <;> first | rfl | trivial | simp)
    ·rw [repL_add,List.append_assoc]
     simp [repL]
   ·have ej : j = t.toNat:=by omega
    subst ej
    have ht : mkW (g.take (i + 1)) = mkW (g.take i) ++ repL (hooksG a b c) t.toNat:=ht
    rw [← List.length_append,← ht] at *
    refine ⟨fun hgt=>?_,fun hle=>⟨by omega,(mkW (g.take (i + 1)),(i : Int) + 1),(by and_intros <;> first | rfl | trivial | simp),hq _ hlt ⟨rfl,fun j hj=>?_⟩⟩⟩
    ·have h96 : 96 < (mkW (g.take (i + 1))).length:=by omega
     have hs : mkAt hk g = some i:=mkAt_some hlt (by simp [mkStop,h96]) hJ
     simp only [hs,hx,hb,if_false,Bool.false_eq_true] at hE hI
     simp [hE,hI]
    ·rcases Nat.lt_succ_iff_lt_or_eq.1 hj with hj | rfl
     ·exact hJ j hj
     ·rw [mkStop,hx,hb,Bool.false_or,decide_eq_false_iff_not]; omega
 ·have : i = g.length:=by omega
  subst this
  have hs:=mkAt_none hJ
  simp only [hs] at hE hI
  simp [hE,hI]
def al_law03_TieMakes : AL (Int × List (Int × Int × Int × Int)):=(.cons (.k (.i .i64)) (.one (.k (.list (.pair (.i .i64) (.pair (.i .i64) (.pair (.i .i64) (.i .i64))))))))
def pre_law03_TieMakes (d : Int × List (Int × Int × Int × Int)) : Prop:=d.2.length ≤ 9223372036854775807
def res_law03_TieMakes (d : Int × List (Int × Int × Int × Int)) : SV:=.val .bo true
def obs_law03_TieMakes (d : Int × List (Int × Int × Int × Int)) : List OB:=[]
def s_law03_TieMakes : CSp:=mkSp al_law03_TieMakes pre_law03_TieMakes res_law03_TieMakes obs_law03_TieMakes
def vc_law03_TieMakes (hk : Int) (g : List (Int × Int × Int × Int)) : Prop :=
 ((decide ((lI g) > (12 : Int))) = true →
  (True) ∧ (true = true ∧ (True))) ∧
 ((decide ((lI g) > (12 : Int))) = false →
  (((List.length ([] : List (Int × Int × Int × Int))) + (List.length g)) * 32 ≤ 70368744177664) ∧ ((([] : List (Int × Int × Int × Int)) ++ g).length ≤ 1000) ∧ ∃ (e3 : Unit) (d30 : Int),((hk = hk ∧ g = g ∧ True ∧ True ∧ (mkI hk (([] : List (Int × Int × Int × Int)) ++ g)) = (mkI hk (([] : List (Int × Int × Int × Int)) ++ g)) ∧ (mkErr hk (([] : List (Int × Int × Int × Int)) ++ g)) = (mkErr hk (([] : List (Int × Int × Int × Int)) ++ g)) ∧ (0 : Int) = d30 ∧ True) ∧ (((([] : List (Int × Int × Int × Int)) ++ g) = (([] : List (Int × Int × Int × Int)) ++ g) ∧ ((List.isEmpty g) && false) = false) ∧ ((if mkErr hk (([] : List (Int × Int × Int × Int)) ++ g) = 0 then hk else 0) = (if mkErr hk (([] : List (Int × Int × Int × Int)) ++ g) = 0 then hk else 0) ∧ True ∧ (([] : List SV) = [])) ∧ ((if mkErr hk (([] : List (Int × Int × Int × Int)) ++ g) = 0 then mkW (([] : List (Int × Int × Int × Int)) ++ g) else []) = (if mkErr hk (([] : List (Int × Int × Int × Int)) ++ g) = 0 then mkW (([] : List (Int × Int × Int × Int)) ++ g) else []) ∧ (if mkErr hk (([] : List (Int × Int × Int × Int)) ++ g) = 0 then mkW (([] : List (Int × Int × Int × Int)) ++ g) else []).isEmpty = (List.isEmpty (if mkErr hk (([] : List (Int × Int × Int × Int)) ++ g) = 0 then mkW (([] : List (Int × Int × Int × Int)) ++ g) else []))) ∧ True)) ∧
  LoopP (fun (d3 : Int) (q3 : (Int) → Prop) =>
   ((decide (d3 < (lI g))) = true →
    (0 ≤ d3) ∧ (d3 < (List.length (([] : List (Int × Int × Int × Int)) ++ g))) ∧ (0 ≤ d3) ∧ (d3 < (List.length g)) ∧ ((!(((gD (([] : List (Int × Int × Int × Int)) ++ g) d3 (0,(0,(0,0)))).1 == (gD g d3 (0,(0,(0,0)))).1) && (((gD (([] : List (Int × Int × Int × Int)) ++ g) d3 (0,(0,(0,0)))).2.1 == (gD g d3 (0,(0,(0,0)))).2.1) && (((gD (([] : List (Int × Int × Int × Int)) ++ g) d3 (0,(0,(0,0)))).2.2.1 == (gD g d3 (0,(0,(0,0)))).2.2.1) && ((gD (([] : List (Int × Int × Int × Int)) ++ g) d3 (0,(0,(0,0)))).2.2.2 == (gD g d3 (0,(0,(0,0)))).2.2.2))))) = true →
     (false = true ∧ (True))) ∧
    ((!(((gD (([] : List (Int × Int × Int × Int)) ++ g) d3 (0,(0,(0,0)))).1 == (gD g d3 (0,(0,(0,0)))).1) && (((gD (([] : List (Int × Int × Int × Int)) ++ g) d3 (0,(0,(0,0)))).2.1 == (gD g d3 (0,(0,(0,0)))).2.1) && (((gD (([] : List (Int × Int × Int × Int)) ++ g) d3 (0,(0,(0,0)))).2.2.1 == (gD g d3 (0,(0,(0,0)))).2.2.1) && ((gD (([] : List (Int × Int × Int × Int)) ++ g) d3 (0,(0,(0,0)))).2.2.2 == (gD g d3 (0,(0,(0,0)))).2.2.2))))) = false →
     (I64 (d3 + (1 : Int))) ∧ (∃ d4 : Int,((hk = hk ∧ g = g ∧ True ∧ True ∧ (mkI hk (([] : List (Int × Int × Int × Int)) ++ g)) = (mkI hk (([] : List (Int × Int × Int × Int)) ++ g)) ∧ (mkErr hk (([] : List (Int × Int × Int × Int)) ++ g)) = (mkErr hk (([] : List (Int × Int × Int × Int)) ++ g)) ∧ (d3 + (1 : Int)) = d4 ∧ True) ∧ (((([] : List (Int × Int × Int × Int)) ++ g) = (([] : List (Int × Int × Int × Int)) ++ g) ∧ false = false) ∧ ((if mkErr hk (([] : List (Int × Int × Int × Int)) ++ g) = 0 then hk else 0) = (if mkErr hk (([] : List (Int × Int × Int × Int)) ++ g) = 0 then hk else 0) ∧ True ∧ (([] : List SV) = [])) ∧ ((if mkErr hk (([] : List (Int × Int × Int × Int)) ++ g) = 0 then mkW (([] : List (Int × Int × Int × Int)) ++ g) else []) = (if mkErr hk (([] : List (Int × Int × Int × Int)) ++ g) = 0 then mkW (([] : List (Int × Int × Int × Int)) ++ g) else []) ∧ (List.isEmpty (if mkErr hk (([] : List (Int × Int × Int × Int)) ++ g) = 0 then mkW (([] : List (Int × Int × Int × Int)) ++ g) else [])) = (List.isEmpty (if mkErr hk (([] : List (Int × Int × Int × Int)) ++ g) = 0 then mkW (([] : List (Int × Int × Int × Int)) ++ g) else []))) ∧ True)) ∧ q3 d4))) ∧
   ((decide (d3 < (lI g))) = false →
    (g.length ≤ 1000) ∧ ((if mkErr hk (([] : List (Int × Int × Int × Int)) ++ g) = 0 then mkW (([] : List (Int × Int × Int × Int)) ++ g) else []).length ≤ 1000000) ∧ ((((decide ((if mkErr hk (([] : List (Int × Int × Int × Int)) ++ g) = 0 then hk else 0) = (if mkErr hk g = 0 then hk else 0)) && ((if mkErr hk (([] : List (Int × Int × Int × Int)) ++ g) = 0 then mkW (([] : List (Int × Int × Int × Int)) ++ g) else []) == (if mkErr hk g = 0 then mkW g else []))) && ((mkI hk (([] : List (Int × Int × Int × Int)) ++ g)) == (mkI hk g))) && ((mkErr hk (([] : List (Int × Int × Int × Int)) ++ g)) == (mkErr hk g))) = true → True) ∧ (((((decide ((if mkErr hk (([] : List (Int × Int × Int × Int)) ++ g) = 0 then hk else 0) = (if mkErr hk g = 0 then hk else 0)) && ((if mkErr hk (([] : List (Int × Int × Int × Int)) ++ g) = 0 then mkW (([] : List (Int × Int × Int × Int)) ++ g) else []) == (if mkErr hk g = 0 then mkW g else []))) && ((mkI hk (([] : List (Int × Int × Int × Int)) ++ g)) == (mkI hk g))) && ((mkErr hk (([] : List (Int × Int × Int × Int)) ++ g)) == (mkErr hk g))) && true) = true ∧ (True)))) d30)
def cx_law03_TieMakes : Cx:=⟨[(32,(.pair (.i .i64) (.pair (.i .i64) (.pair (.i .i64) (.i .i64)))))],[(14,s_law03_known),(15,s_tie_Make),(16,s_ref03_Make),(17,s_ref03_Same)],65,[],0,[],[],[],[],false,[],[],[]⟩
def lp_law03_TieMakes (hk : Int) (g : List (Int × Int × Int × Int)) : List (Nat × LoopAnn):=[(0,⟨Unit,Int,[0,1,5,6,7,8,9],fun e x=>[.val (.i .i64) hk,.val (.list (.pair (.i .i64) (.pair (.i .i64) (.pair (.i .i64) (.i .i64))))) g,.lst 17,.box 6 0,.val (.i .i64) (mkI hk (([] : List (Int × Int × Int × Int)) ++ g)),.val (.i .i64) (mkErr hk (([] : List (Int × Int × Int × Int)) ++ g)),.val (.i .i64) x],fun e x=>[(17,.slot 5,.lst 32 (.pair (.i .i64) (.pair (.i .i64) (.pair (.i .i64) (.i .i64)))) (([] : List (Int × Int × Int × Int)) ++ g) false),(6,.slot 6,.cells [.val (.i .i64) (if mkErr hk (([] : List (Int × Int × Int × Int)) ++ g) = 0 then hk else 0),.lst 23] (some 26)),(23,.cell 6 1,.lst 3 (.i .i64) (if mkErr hk (([] : List (Int × Int × Int × Int)) ++ g) = 0 then mkW (([] : List (Int × Int × Int × Int)) ++ g) else []) (List.isEmpty (if mkErr hk (([] : List (Int × Int × Int × Int)) ++ g) = 0 then mkW (([] : List (Int × Int × Int × Int)) ++ g) else [])))]⟩)]
set_option maxRecDepth 100000 in
theorem vq_law03_TieMakes (d : Int × List (Int × Int × Int × Int)) : gwp (cx_law03_TieMakes) (lp_law03_TieMakes d.1 d.2) c3 0 (gend [.tmp 4] (res_law03_TieMakes d) (obs_law03_TieMakes d)) (gstart 65 (AL.can al_law03_TieMakes d)) = vc_law03_TieMakes d.1 d.2:=by kernel_rfl
abbrev Ok_law03_TieMakes : Prop:=OkC Tryz.prog 3 s_law03_TieMakes
theorem mk_law03_TieMakes (h : ∀ (hk : Int) (g : List (Int × Int × Int × Int)),(g.length ≤ 9223372036854775807) → vc_law03_TieMakes hk g) : OkC Tryz.prog 3 s_law03_TieMakes :=
 okC_vc fun3 mixed (C:=cx_law03_TieMakes) (V:=fun (d : Int × List (Int × Int × Int × Int))=>vc_law03_TieMakes d.1 d.2) ⟨(.cons ok_law03_known (.cons ok_tie_Make (.cons ok_ref03_Make (.cons ok_ref03_Same .nil)))),XsOk.nil,ItsOk.nil,YlOk.nil,IysOk.nil⟩ (vq_law03_TieMakes) fun d hp=>h d.1 d.2 hp
theorem mkLen_err {hk : Int} {g : List Grp} (h : mkErr hk g = 0) : (mkW g).length ≤ 96:=by
 unfold mkErr at h
 split at h
 ·cases h
 split at h
 ·cases h
 split at h
 ·cases h
 split at h
 ·rename_i hN
  have:=mkLen (hk:=hk) (g:=g) (Nat.le_refl _) fun j hj=>by
   have:=List.find?_range_eq_none.1 hN j hj
   simpa using this
  rw [List.take_length] at this
  exact this
 ·split at h <;> cases h
theorem ok_law03_TieMakes : Ok_law03_TieMakes:=mk_law03_TieMakes fun hk g hg=>by
 unfold vc_law03_TieMakes; (try delta lI gD sT I64)
 (try simp only [decide_eq_true_eq,decide_eq_false_iff_not])
 refine ⟨fun _=>(by and_intros <;> first | rfl | trivial | simp),fun hle=>?_⟩
 simp only [List.nil_append]
 have hw : (if mkErr hk g = 0 then mkW g else []).length ≤ 1000000:=by
  split
  ·rename_i h; have:=mkLen_err h; omega
  ·exact Nat.zero_le _
 refine ⟨by simp only [List.length_nil]; omega,by omega,(),0,?_,?_⟩
 ·simp
 refine LoopP.count g.length (fun _=>True) trivial fun i hi _ q hq=>?_
 simp only [InK_i64,BEq.rfl,Bool.and_self,Bool.not_true]
 refine ⟨fun hlt=>⟨by omega,by omega,by omega,by omega,(fun hf=>by cases hf),fun _=>⟨by omega,_,(by and_intros <;> first | rfl | trivial | simp),hq (by omega) trivial⟩⟩,fun hge=>⟨by omega,hw,fun _=>trivial,by simp⟩⟩
end Go.Proofs.Tryz