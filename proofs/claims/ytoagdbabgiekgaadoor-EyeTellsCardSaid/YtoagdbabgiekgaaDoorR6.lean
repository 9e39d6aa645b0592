/- A framework for walks, contracts of functions, and their proofs: part 6. -/
import Derived.Test.YtoagdbabgiekgaaDoorR5
set_option linter.unusedVariables false
namespace Go.Proofs.Tryd
open Go Go.V Go.Proofs
def al_eye_Wrong : AL ((Int × List Int) × List Int) := (.cons (.agg (.cons (.k (.i .i64)) (.one (.k (.list (.i .i64)))))) (.one (.k (.list (.i .i64)))))
def pre_eye_Wrong (d : (Int × List Int) × List Int) : Prop := d.1.2.length ≤ 110 ∧ d.2.length ≤ 110
def res_eye_Wrong (d : (Int × List Int) × List Int) : SV := .tup [.lst 0, .val (.i .i64) (eyeErr d.1.1 d.1.2 d.2)]
def obs_eye_Wrong (d : (Int × List Int) × List Int) : List OB := [.lst 3 (.i .i64) (wrongW d.1.1 d.1.2 d.2) ((wrongW d.1.1 d.1.2 d.2).isEmpty)]
def s_eye_Wrong : CSp := mkSp al_eye_Wrong pre_eye_Wrong res_eye_Wrong obs_eye_Wrong
def vc_eye_Wrong (hk : Int) (lw : List Int) (l : List Int) : Prop :=
 (lw.length ≤ 110 ∧ l.length ≤ 110) ∧ (((eyeErr hk lw l) != (0 : Int)) = true →
  ((True ∧ (eyeErr hk lw l) = eyeErr hk lw l ∧ (([] : List SV) = [])) ∧ (((wrongW hk lw l) = [] ∧ (wrongW hk lw l).isEmpty = true) ∧ True))) ∧
 (((eyeErr hk lw l) != (0 : Int)) = false →
  ∃ (e4 : Unit) (d40 : (List Int) × Int), ((l = l ∧ True ∧ True ∧ (lI l) = (lI l) ∧ (0 : Int) = d40.2 ∧ True) ∧ ((hk = hk ∧ lw = lw ∧ (([] : List SV) = [])) ∧ (d40.1 = [] ∧ (List.isEmpty d40.1) = true) ∧ True)) ∧
  LoopP (fun (d4 : (List Int) × Int) (q4 : ((List Int) × Int) → Prop) =>
   ((decide (d4.2 < (lI l))) = true →
    (0 ≤ d4.2 ∧ d4.2 < l.length ∧ l.length ≤ lw.length ∧ ∀ x ∈ l, -1 ≤ x ∧ x < lw.length) ∧ ((!(isRight lw l d4.2)) = true →
     (((List.length d4.1) + (List.length [d4.2])) * 8 ≤ 70368744177664) ∧ (I64 (d4.2 + (1 : Int))) ∧ (∃ d5 : (List Int) × Int, ((l = l ∧ True ∧ True ∧ (lI l) = (lI l) ∧ (d4.2 + (1 : Int)) = d5.2 ∧ True) ∧ ((hk = hk ∧ lw = lw ∧ (([] : List SV) = [])) ∧ ((d4.1 ++ [d4.2]) = d5.1 ∧ false = (List.isEmpty d5.1)) ∧ True)) ∧ q4 d5)) ∧
    ((!(isRight lw l d4.2)) = false →
     (I64 (d4.2 + (1 : Int))) ∧ (∃ d6 : (List Int) × Int, ((l = l ∧ True ∧ True ∧ (lI l) = (lI l) ∧ (d4.2 + (1 : Int)) = d6.2 ∧ True) ∧ ((hk = hk ∧ lw = lw ∧ (([] : List SV) = [])) ∧ (d4.1 = d6.1 ∧ (List.isEmpty d4.1) = (List.isEmpty d6.1)) ∧ True)) ∧ q4 d6))) ∧
   ((decide (d4.2 < (lI l))) = false →
    ((True ∧ (0 : Int) = eyeErr hk lw l ∧ (([] : List SV) = [])) ∧ ((d4.1 = (wrongW hk lw l) ∧ (List.isEmpty d4.1) = (wrongW hk lw l).isEmpty) ∧ True)))) d40)
def cx_eye_Wrong : Cx := ⟨[(3, (.i .i64))], [(45, s_eye_Check), (48, s_eye_board_isRight)], 31, [], 0, [], [], [], [], false⟩
def lp_eye_Wrong (hk : Int) (lw : List Int) (l : List Int) : List (Nat × LoopAnn) := [(0, ⟨Unit, (List Int) × Int, [1, 2, 4, 15, 16], fun e x => [.val (.list (.i .i64)) l, .box 2 0, .lst 28, .val (.i .i64) (((List.length l) : Nat) : Int), .val (.i .i64) x.2], fun e x => [(2, .slot 2, .cells [.val (.i .i64) hk, .val (.list (.i .i64)) lw] (some 24)), (28, .slot 4, .lst 3 (.i .i64) x.1 (List.isEmpty x.1))]⟩)]
set_option maxRecDepth 100000 in
theorem vq_eye_Wrong (d : (Int × List Int) × List Int) : gwp (cx_eye_Wrong) (lp_eye_Wrong d.1.1 d.1.2 d.2) c37 0 (gend [.tmp 4, .tmp 5] (res_eye_Wrong d) (obs_eye_Wrong d)) (gstart 31 (AL.can al_eye_Wrong d)) = vc_eye_Wrong d.1.1 d.1.2 d.2 := by kernel_rfl
abbrev Ok_eye_Wrong : Prop := OkC Tryd.prog 37 s_eye_Wrong
theorem mk_eye_Wrong (h : ∀ (hk : Int) (lw : List Int) (l : List Int), (lw.length ≤ 110 ∧ l.length ≤ 110) → vc_eye_Wrong hk lw l) : OkC Tryd.prog 37 s_eye_Wrong :=
 okC_vc fun37 mixed (C := cx_eye_Wrong) (V := fun (d : (Int × List Int) × List Int) => vc_eye_Wrong d.1.1 d.1.2 d.2) ⟨(.cons ok_eye_Check (.cons ok_eye_board_isRight .nil)), XsOk.nil, ItsOk.nil⟩ (vq_eye_Wrong) fun d hp => h d.1.1 d.1.2 d.2 hp
theorem wrongN_succ (lw l : List Int) (n : Nat) : wrongN lw l (n + 1) = wrongN lw l n ++ if isRight lw l n then [] else [(n : Int)] := by
 simp only [wrongN, List.range_succ, List.filter_append, List.map_append]
 congr 1
 cases h : isRight lw l n <;> simp [h]
theorem wrongN_len (lw l : List Int) (n : Nat) : (wrongN lw l n).length ≤ n := by
 simp only [wrongN, List.length_map]
 exact Nat.le_trans (List.length_filter_le _ _) (by simp)
theorem ok_eye_Wrong : Ok_eye_Wrong := mk_eye_Wrong fun hk lw l h => by
 unfold vc_eye_Wrong; (try delta lI gD sT I64); simp only [true_and, and_true, exists_const, decide_eq_true_eq, decide_eq_false_iff_not, bne_iff_ne, ne_eq, bne_eq_false_iff_eq, Bool.not_eq_true', Bool.not_eq_false', InK_i64]
 refine ⟨h, fun he => ?_, fun he => ?_⟩
 ·simp [wrongW, he]
 obtain ⟨h2, h0, h3⟩ := eyeErr_zero he
 refine ⟨([], 0), ⟨rfl, rfl, rfl⟩, ?_⟩
 refine LoopP.count2 l.length (fun k xs => xs = wrongN lw l k) rfl fun k xs hk' hJ q hq => ?_
 have hxl : xs.length ≤ k := by rw [hJ]; exact wrongN_len lw l k
 dsimp only
 refine ⟨fun hlt => ?_, fun hge => ?_⟩
 ·have hlt : k < l.length := by omega
  refine ⟨⟨by omega, by omega, by omega, h3⟩, fun hr => ?_, fun hr => ?_⟩
  ·simp only [List.length_singleton]
   refine ⟨by omega, by omega, (xs ++ [(k : Int)], (k : Int) + 1), ⟨rfl, rfl, by simp⟩, hq _ hlt ?_⟩
   rw [wrongN_succ, hr, hJ]; rfl
  ·refine ⟨by omega, (xs, (k : Int) + 1), ⟨rfl, rfl, rfl⟩, hq _ hlt ?_⟩
   rw [wrongN_succ, hr, hJ]; simp
 ·have : k = l.length := by omega
  subst this
  have e : wrongW hk lw l = wrongN lw l l.length := by simp [wrongW, he, wrongI]
  rw [e, hJ]
  exact ⟨he.symm, rfl, rfl⟩
def al_eye_Weave : AL ((Int × List Int) × List Int × Int × List Int) := (.cons (.agg (.cons (.k (.i .i64)) (.one (.k (.list (.i .i64)))))) (.cons (.k (.list (.i .i64))) (.one (.agg (.cons (.k (.i .i64)) (.one (.k (.list (.i .i64)))))))))
def pre_eye_Weave (d : (Int × List Int) × List Int × Int × List Int) : Prop := d.1.2.length ≤ 110 ∧ d.2.1.length ≤ 110 ∧ d.2.2.2.length ≤ 110
def res_eye_Weave (d : (Int × List Int) × List Int × Int × List Int) : SV := .tup [.lst 0, .val (.i .i64) (eyeWErr d.1.1 d.1.2 d.2.1 d.2.2.1 d.2.2.2)]
def obs_eye_Weave (d : (Int × List Int) × List Int × Int × List Int) : List OB := [.lst 9 .st (eyeWC d.1.1 d.1.2 d.2.1 d.2.2.1 d.2.2.2) ((eyeWC d.1.1 d.1.2 d.2.1 d.2.2.1 d.2.2.2).isEmpty)]
def s_eye_Weave : CSp := mkSp al_eye_Weave pre_eye_Weave res_eye_Weave obs_eye_Weave
def vc_eye_Weave (hk : Int) (lw : List Int) (l : List Int) (hd : Int) (rows : List Int) : Prop :=
 (lw.length ≤ 110 ∧ l.length ≤ 110) ∧ (((eyeErr hk lw l) != (0 : Int)) = true →
  ((True ∧ (eyeErr hk lw l) = eyeWErr hk lw l hd rows ∧ (([] : List SV) = [])) ∧ (((eyeWC hk lw l hd rows) = [] ∧ (eyeWC hk lw l hd rows).isEmpty = true) ∧ True))) ∧
 (((eyeErr hk lw l) != (0 : Int)) = false →
  (lw.length ≤ 110 ∧ rows.length ≤ 110) ∧ ((weaveErr hk lw hd rows != (0 : Int)) = true →
   ((True ∧ weaveErr hk lw hd rows = eyeWErr hk lw l hd rows ∧ (([] : List SV) = [])) ∧ (((eyeWC hk lw l hd rows) = [] ∧ (eyeWC hk lw l hd rows).isEmpty = true) ∧ True))) ∧
  ((weaveErr hk lw hd rows != (0 : Int)) = false →
   ∃ (e4 : Unit) (d40 : (List (List UInt8)) × Int), ((l = l ∧ True ∧ True ∧ (lI (weaveC hk lw hd rows)) = (lI (weaveC hk lw hd rows)) ∧ (0 : Int) = d40.2 ∧ True) ∧ ((d40.1 = [] ∧ (List.isEmpty d40.1) = true) ∧ ((weaveC hk lw hd rows) = (weaveC hk lw hd rows) ∧ (weaveC hk lw hd rows).isEmpty = (List.isEmpty (weaveC hk lw hd rows))) ∧ True)) ∧
   LoopP (fun (d4 : (List (List UInt8)) × Int) (q4 : ((List (List UInt8)) × Int) → Prop) =>
    ((decide (d4.2 < (lI (weaveC hk lw hd rows)))) = true →
     (0 ≤ d4.2) ∧ (d4.2 < (List.length (weaveC hk lw hd rows))) ∧ ∃ (e8 : (List (List UInt8)) × (List UInt8) × Int) (d80 : (List Int) × Int), ((l = l ∧ True ∧ (gD (weaveC hk lw hd rows) d4.2 []) = e8.2.1 ∧ True ∧ True ∧ (lI (weaveC hk lw hd rows)) = (lI (weaveC hk lw hd rows)) ∧ d4.2 = e8.2.2 ∧ l = l ∧ (lI l) = (lI l) ∧ (0 : Int) = d80.2 ∧ True) ∧ ((d4.1 = e8.1 ∧ (List.isEmpty d4.1) = (List.isEmpty e8.1)) ∧ (d80.1 = [] ∧ (List.isEmpty d80.1) = true) ∧ ((weaveC hk lw hd rows) = (weaveC hk lw hd rows) ∧ (List.isEmpty (weaveC hk lw hd rows)) = (List.isEmpty (weaveC hk lw hd rows))) ∧ True)) ∧
     LoopP (fun (d8 : (List Int) × Int) (q8 : ((List Int) × Int) → Prop) =>
      ((decide (d8.2 < (lI l))) = true →
       (0 ≤ d8.2) ∧ (d8.2 < (List.length l)) ∧ (((gD l d8.2 0) == (-1 : Int)) = true →
        (((List.length d8.1) + (List.length [(46 : Int)])) * 1 ≤ 70368744177664) ∧ (I64 (d8.2 + (1 : Int))) ∧ (∃ d9 : (List Int) × Int, ((l = l ∧ True ∧ e8.2.1 = e8.2.1 ∧ True ∧ True ∧ (lI (weaveC hk lw hd rows)) = (lI (weaveC hk lw hd rows)) ∧ e8.2.2 = e8.2.2 ∧ l = l ∧ (lI l) = (lI l) ∧ (d8.2 + (1 : Int)) = d9.2 ∧ True) ∧ ((e8.1 = e8.1 ∧ (List.isEmpty e8.1) = (List.isEmpty e8.1)) ∧ ((d8.1 ++ [(46 : Int)]) = d9.1 ∧ false = (List.isEmpty d9.1)) ∧ ((weaveC hk lw hd rows) = (weaveC hk lw hd rows) ∧ (List.isEmpty (weaveC hk lw hd rows)) = (List.isEmpty (weaveC hk lw hd rows))) ∧ True)) ∧ q8 d9)) ∧
       (((gD l d8.2 0) == (-1 : Int)) = false →
        (0 ≤ (gD l d8.2 0)) ∧ ((gD l d8.2 0) < (List.length e8.2.1)) ∧ (((List.length d8.1) + (List.length [((UInt8.toNat (gD e8.2.1 (gD l d8.2 0) 0) : Nat) : Int)])) * 1 ≤ 70368744177664) ∧ (I64 (d8.2 + (1 : Int))) ∧ (∃ d10 : (List Int) × Int, ((l = l ∧ True ∧ e8.2.1 = e8.2.1 ∧ True ∧ True ∧ (lI (weaveC hk lw hd rows)) = (lI (weaveC hk lw hd rows)) ∧ e8.2.2 = e8.2.2 ∧ l = l ∧ (lI l) = (lI l) ∧ (d8.2 + (1 : Int)) = d10.2 ∧ True) ∧ ((e8.1 = e8.1 ∧ (List.isEmpty e8.1) = (List.isEmpty e8.1)) ∧ ((d8.1 ++ [((UInt8.toNat (gD e8.2.1 (gD l d8.2 0) 0) : Nat) : Int)]) = d10.1 ∧ false = (List.isEmpty d10.1)) ∧ ((weaveC hk lw hd rows) = (weaveC hk lw hd rows) ∧ (List.isEmpty (weaveC hk lw hd rows)) = (List.isEmpty (weaveC hk lw hd rows))) ∧ True)) ∧ q8 d10))) ∧
      ((decide (d8.2 < (lI l))) = false →
       (((List.length e8.1) + (List.length [(bytesI d8.1)])) * 16 ≤ 70368744177664) ∧ (I64 (e8.2.2 + (1 : Int))) ∧ (∃ d11 : (List (List UInt8)) × Int, ((l = l ∧ True ∧ True ∧ (lI (weaveC hk lw hd rows)) = (lI (weaveC hk lw hd rows)) ∧ (e8.2.2 + (1 : Int)) = d11.2 ∧ True) ∧ (((e8.1 ++ [(bytesI d8.1)]) = d11.1 ∧ false = (List.isEmpty d11.1)) ∧ ((weaveC hk lw hd rows) = (weaveC hk lw hd rows) ∧ (List.isEmpty (weaveC hk lw hd rows)) = (List.isEmpty (weaveC hk lw hd rows))) ∧ True)) ∧ q4 d11))) d80) ∧
    ((decide (d4.2 < (lI (weaveC hk lw hd rows)))) = false →
     ((True ∧ (0 : Int) = eyeWErr hk lw l hd rows ∧ (([] : List SV) = [])) ∧ ((d4.1 = (eyeWC hk lw l hd rows) ∧ (List.isEmpty d4.1) = (eyeWC hk lw l hd rows).isEmpty) ∧ True)))) d40))
def cx_eye_Weave : Cx := ⟨[(5, (.i .u8)), (9, .st)], [(45, s_eye_Check), (36, s_tie_Weave)], 61, [], 0, [], [], [], [], false⟩
def lp_eye_Weave (hk : Int) (lw : List Int) (l : List Int) (hd : Int) (rows : List Int) : List (Nat × LoopAnn) := [(0, ⟨Unit, (List (List UInt8)) × Int, [1, 6, 30, 31, 32], fun e x => [.val (.list (.i .i64)) l, .lst 58, .lst 24, .val (.i .i64) (((List.length (weaveC hk lw hd rows)) : Nat) : Int), .val (.i .i64) x.2], fun e x => [(58, .slot 6, .lst 9 .st x.1 (List.isEmpty x.1)), (24, .slot 30, .lst 9 .st (weaveC hk lw hd rows) (List.isEmpty (weaveC hk lw hd rows)))]⟩),
 (2, ⟨(List (List UInt8)) × (List UInt8) × Int, (List Int) × Int, [1, 6, 11, 12, 30, 31, 32, 36, 37, 38], fun e x => [.val (.list (.i .i64)) l, .lst 58, .val .st e.2.1, .lst 46, .lst 24, .val (.i .i64) (((List.length (weaveC hk lw hd rows)) : Nat) : Int), .val (.i .i64) e.2.2, .val (.list (.i .i64)) l, .val (.i .i64) (((List.length l) : Nat) : Int), .val (.i .i64) x.2], fun e x => [(58, .slot 6, .lst 9 .st e.1 (List.isEmpty e.1)), (46, .slot 12, .lst 5 (.i .u8) x.1 (List.isEmpty x.1)), (24, .slot 30, .lst 9 .st (weaveC hk lw hd rows) (List.isEmpty (weaveC hk lw hd rows)))]⟩)]
set_option maxRecDepth 100000 in
theorem vq_eye_Weave (d : (Int × List Int) × List Int × Int × List Int) : gwp (cx_eye_Weave) (lp_eye_Weave d.1.1 d.1.2 d.2.1 d.2.2.1 d.2.2.2) c34 0 (gend [.tmp 6, .tmp 7] (res_eye_Weave d) (obs_eye_Weave d)) (gstart 61 (AL.can al_eye_Weave d)) = vc_eye_Weave d.1.1 d.1.2 d.2.1 d.2.2.1 d.2.2.2 := by kernel_rfl
abbrev Ok_eye_Weave : Prop := OkC Tryd.prog 34 s_eye_Weave
theorem mk_eye_Weave (h : ∀ (hk : Int) (lw : List Int) (l : List Int) (hd : Int) (rows : List Int), (lw.length ≤ 110 ∧ l.length ≤ 110 ∧ rows.length ≤ 110) → vc_eye_Weave hk lw l hd rows) : OkC Tryd.prog 34 s_eye_Weave :=
 okC_vc fun34 mixed (C := cx_eye_Weave) (V := fun (d : (Int × List Int) × List Int × Int × List Int) => vc_eye_Weave d.1.1 d.1.2 d.2.1 d.2.2.1 d.2.2.2) ⟨(.cons ok_eye_Check (.cons ok_tie_Weave .nil)), XsOk.nil, ItsOk.nil⟩ (vq_eye_Weave) fun d hp => h d.1.1 d.1.2 d.2.1 d.2.2.1 d.2.2.2 hp
theorem bytesI_snoc (l : List Int) (x : Int) : bytesI (l ++ [x]) = bytesI l ++ bytesI [x] := by simp [bytesI]
theorem drawC_snoc (l : List Int) (x : Int) (p : List UInt8) : drawC (l ++ [x]) p = drawC l p ++ [if x = -1 then 46 else p.getD x.toNat 0] := by simp only [drawC, List.map_append, List.map_cons, List.map_nil]
theorem ok_eye_Weave : Ok_eye_Weave := mk_eye_Weave fun hk lw l hd rows h => by
 obtain ⟨h1, h2, h3⟩ := h
 unfold vc_eye_Weave; (try delta lI gD sT I64); simp only [true_and, and_true, exists_const, decide_eq_true_eq, decide_eq_false_iff_not, beq_iff_eq, bne_iff_ne, ne_eq, beq_eq_false_iff_ne, bne_eq_false_iff_eq, InK_i64]
 refine ⟨⟨h1, h2⟩, fun he => ?_, fun he => ⟨⟨h1, h3⟩, fun hw => ?_, fun hw => ?_⟩⟩
 ·simp [eyeWErr, eyeWC, he]
 ·simp [eyeWErr, eyeWC, he, hw]
 obtain ⟨k2, k0, k3⟩ := eyeErr_zero he
 have e1 : eyeWErr hk lw l hd rows = 0 := by simp [eyeWErr, he, hw]
 have e2 : eyeWC hk lw l hd rows = rows.map fun r => drawC l (pickS lw r) := by simp [eyeWC, e1]
 have e3 : weaveC hk lw hd rows = rows.map (pickS lw) := by simp [weaveC, hw]
 rw [e1, e2]
 generalize hc : weaveC hk lw hd rows = cl
 rw [e3] at hc
 have hcl : cl.length = rows.length := by rw [← hc]; simp
 refine ⟨([], 0), ⟨rfl, rfl, rfl⟩, ?_⟩
 refine LoopP.count2 cl.length (fun k xs => xs = (cl.take k).map (drawC l)) (by simp) fun k xs hk' hJ q hq => ?_
 have hxl : xs.length = k := by rw [hJ]; simp; omega
 dsimp only
 refine ⟨fun hlt => ?_, fun hge => ?_⟩
 ·have hlt : k < cl.length := by omega
  have hpl : cl[k].length = lw.length := by simp [← hc, pickS]
  simp only [Int.toNat_natCast, getD_nat hlt]
  refine ⟨by omega, by omega, (xs, cl[k], (k : Int)), ([], 0), (by and_intros <;> first | rfl | trivial), ?_⟩
  refine LoopP.count2 l.length (fun j b => b.length = j ∧ bytesI b = drawC (l.take j) cl[k]) ⟨rfl, rfl⟩ fun j b hj hJ2 q2 hq2 => ?_
  obtain ⟨hbl, hJ2⟩ := hJ2
  dsimp only
  refine ⟨fun hjl => ?_, fun hjge => ?_⟩
  ·have hjl : j < l.length := by omega
   have hx := k3 _ (List.getElem_mem hjl)
   simp only [Int.toNat_natCast, getD_nat hjl, List.length_singleton]
   refine ⟨by omega, by omega, fun hm => ?_, fun hm => ?_⟩
   ·refine ⟨by omega, by omega, (b ++ [46], (j : Int) + 1), (by and_intros <;> first | rfl | trivial | simp), hq2 _ hjl ⟨by simp [hbl], ?_⟩⟩
    rw [bytesI_snoc, hJ2, take_succ_eq hjl, drawC_snoc, if_pos hm]; rfl
   ·have hr : (l[j]).toNat < cl[k].length := by omega
    simp only [getD_nat hr]
    refine ⟨by omega, by omega, by omega, by omega, (b ++ [((cl[k][(l[j]).toNat].toNat : Nat) : Int)], (j : Int) + 1), (by and_intros <;> first | rfl | trivial | simp), hq2 _ hjl ⟨by simp [hbl], ?_⟩⟩
    rw [bytesI_snoc, hJ2, take_succ_eq hjl, drawC_snoc, if_neg hm, getD_nat hr]
    simp [bytesI]
  ·have : j = l.length := by omega
   subst this
   rw [List.take_length] at hJ2
   refine ⟨by simp only [List.length_singleton]; omega, by omega, (xs ++ [bytesI b], (k : Int) + 1), ⟨rfl, rfl, by simp⟩, hq _ hlt ?_⟩
   rw [take_succ_eq hlt, List.map_append, ← hJ, hJ2]; rfl
 ·have : k = cl.length := by omega
  subst this
  rw [List.take_length] at hJ
  rw [hJ, ← hc]
  simp
def al_law11_ours : AL (Int × List Int) := (.one (.agg (.cons (.k (.i .i64)) (.one (.k (.list (.i .i64)))))))
def pre_law11_ours (d : Int × List Int) : Prop := d.2.length ≤ 110
def res_law11_ours (d : Int × List Int) : SV := .agg [.val (.i .i64) d.1, .lst 0]
def obs_law11_ours (d : Int × List Int) : List OB := [.lst 3 (.i .i64) d.2 false]
def s_law11_ours : CSp := mkSp al_law11_ours pre_law11_ours res_law11_ours obs_law11_ours
def vc_law11_ours (hd : Int) (rows : List Int) : Prop :=
 (rows.length ≤ 110) ∧ (false = true → rows = []) ∧ ((hd = hd ∧ True ∧ (([] : List SV) = [])) ∧ ((rows = rows ∧ false = false) ∧ True))
def cx_law11_ours : Cx := ⟨[], [(14, s_law11_ints)], 9, [], 0, [], [], [], [], false⟩
def lp_law11_ours (hd : Int) (rows : List Int) : List (Nat × LoopAnn) := []
set_option maxRecDepth 100000 in
theorem vq_law11_ours (d : Int × List Int) : gwp (cx_law11_ours) (lp_law11_ours d.1 d.2) c35 0 (gend [.cell 2 true 2] (res_law11_ours d) (obs_law11_ours d)) (gstart 9 (AL.can al_law11_ours d)) = vc_law11_ours d.1 d.2 := by kernel_rfl
abbrev Ok_law11_ours : Prop := OkC Tryd.prog 35 s_law11_ours
theorem mk_law11_ours (h : ∀ (hd : Int) (rows : List Int), (rows.length ≤ 110) → vc_law11_ours hd rows) : OkC Tryd.prog 35 s_law11_ours :=
 okC_vc fun35 mixed (C := cx_law11_ours) (V := fun (d : Int × List Int) => vc_law11_ours d.1 d.2) ⟨(.cons ok_law11_ints .nil), XsOk.nil, ItsOk.nil⟩ (vq_law11_ours) fun d hp => h d.1 d.2 hp
theorem ok_law11_ours : Ok_law11_ours := mk_law11_ours fun hd rows h => by
 simp [vc_law11_ours, h]
def al_law11_Board_design : AL (Int × List Int × List Int × List Int) := (.one (.agg (.cons (.k (.i .u8)) (.cons (.k (.list (.i .u8))) (.cons (.k (.list (.i .u16))) (.one (.k (.list (.i .u8)))))))))
def pre_law11_Board_design (d : Int × List Int × List Int × List Int) : Prop := bOk d.1 d.2.1 d.2.2.1 d.2.2.2
def res_law11_Board_design (d : Int × List Int × List Int × List Int) : SV := .agg [.val (.i .i64) (bHk d.1), .lst 0]
def obs_law11_Board_design (d : Int × List Int × List Int × List Int) : List OB := [.lst 3 (.i .i64) (bRows d.1 d.2.2.1) false]
def s_law11_Board_design : CSp := mkSp al_law11_Board_design pre_law11_Board_design res_law11_Board_design obs_law11_Board_design
def vc_law11_Board_design (h8 : Int) (ws : List Int) (rs : List Int) (ds : List Int) : Prop :=
 (I64 h8) ∧ ((10 : Int) ≠ 0) ∧ (I64 ((1 : Int) + (Int.tmod h8 (10 : Int)))) ∧ ∃ (e4 : Unit) (d40 : (List Int) × Int), ((True ∧ True ∧ True ∧ (0 : Int) = d40.2 ∧ True) ∧ ((h8 = h8 ∧ ws = ws ∧ rs = rs ∧ ds = ds ∧ (([] : List SV) = [])) ∧ ((0 : Int) = (0 : Int) ∧ True ∧ (([] : List SV) = [])) ∧ (((1 : Int) + (Int.tmod h8 (10 : Int))) = ((1 : Int) + (Int.tmod h8 (10 : Int))) ∧ True ∧ (([] : List SV) = [])) ∧ (d40.1 = [] ∧ (List.isEmpty d40.1) = true) ∧ True)) ∧
 LoopP (fun (d4 : (List Int) × Int) (q4 : ((List Int) × Int) → Prop) =>
  (((d4.2 == (0 : Int)) || ((decide (d4.2 < (lI rs))) && (decide (d4.2 < (8 : Int))))) = true →
   ((decide (d4.2 < (lI rs))) = true →
    (0 ≤ d4.2) ∧ (d4.2 < (List.length rs)) ∧ (I64 (gD rs d4.2 0)) ∧ (InK .u64 ((1 : Int) + (Int.tmod h8 (10 : Int)))) ∧ (0 ≤ ((1 : Int) + (Int.tmod h8 (10 : Int)))) ∧ (I64 (shlI .i64 (1 : Int) ((1 : Int) + (Int.tmod h8 (10 : Int))))) ∧ (I64 ((shlI .i64 (1 : Int) ((1 : Int) + (Int.tmod h8 (10 : Int)))) - (1 : Int))) ∧ (((List.length d4.1) + (List.length [(vbits .and .i64 (gD rs d4.2 0) ((shlI .i64 (1 : Int) ((1 : Int) + (Int.tmod h8 (10 : Int)))) - (1 : Int)))])) * 8 ≤ 70368744177664) ∧ (I64 (d4.2 + (1 : Int))) ∧ (∃ d5 : (List Int) × Int, ((True ∧ True ∧ True ∧ (d4.2 + (1 : Int)) = d5.2 ∧ True) ∧ ((h8 = h8 ∧ ws = ws ∧ rs = rs ∧ ds = ds ∧ (([] : List SV) = [])) ∧ ((0 : Int) = (0 : Int) ∧ True ∧ (([] : List SV) = [])) ∧ (((1 : Int) + (Int.tmod h8 (10 : Int))) = ((1 : Int) + (Int.tmod h8 (10 : Int))) ∧ True ∧ (([] : List SV) = [])) ∧ ((d4.1 ++ [(vbits .and .i64 (gD rs d4.2 0) ((shlI .i64 (1 : Int) ((1 : Int) + (Int.tmod h8 (10 : Int)))) - (1 : Int)))]) = d5.1 ∧ false = (List.isEmpty d5.1)) ∧ True)) ∧ q4 d5)) ∧
   ((decide (d4.2 < (lI rs))) = false →
    (InK .u64 ((1 : Int) + (Int.tmod h8 (10 : Int)))) ∧ (0 ≤ ((1 : Int) + (Int.tmod h8 (10 : Int)))) ∧ (I64 (shlI .i64 (1 : Int) ((1 : Int) + (Int.tmod h8 (10 : Int))))) ∧ (I64 ((shlI .i64 (1 : Int) ((1 : Int) + (Int.tmod h8 (10 : Int)))) - (1 : Int))) ∧ (((List.length d4.1) + (List.length [(vbits .and .i64 (21 : Int) ((shlI .i64 (1 : Int) ((1 : Int) + (Int.tmod h8 (10 : Int)))) - (1 : Int)))])) * 8 ≤ 70368744177664) ∧ (I64 (d4.2 + (1 : Int))) ∧ (∃ d6 : (List Int) × Int, ((True ∧ True ∧ True ∧ (d4.2 + (1 : Int)) = d6.2 ∧ True) ∧ ((h8 = h8 ∧ ws = ws ∧ rs = rs ∧ ds = ds ∧ (([] : List SV) = [])) ∧ ((0 : Int) = (0 : Int) ∧ True ∧ (([] : List SV) = [])) ∧ (((1 : Int) + (Int.tmod h8 (10 : Int))) = ((1 : Int) + (Int.tmod h8 (10 : Int))) ∧ True ∧ (([] : List SV) = [])) ∧ ((d4.1 ++ [(vbits .and .i64 (21 : Int) ((shlI .i64 (1 : Int) ((1 : Int) + (Int.tmod h8 (10 : Int)))) - (1 : Int)))]) = d6.1 ∧ false = (List.isEmpty d6.1)) ∧ True)) ∧ q4 d6))) ∧
  (((d4.2 == (0 : Int)) || ((decide (d4.2 < (lI rs))) && (decide (d4.2 < (8 : Int))))) = false →
   ((((1 : Int) + (Int.tmod h8 (10 : Int))) = (bHk h8) ∧ True ∧ (([] : List SV) = [])) ∧ ((d4.1 = (bRows h8 rs) ∧ (List.isEmpty d4.1) = false) ∧ True)))) d40
def cx_law11_Board_design : Cx := ⟨[(3, (.i .i64))], [], 51, [], 0, [], [], [], [], false⟩
def lp_law11_Board_design (h8 : Int) (ws : List Int) (rs : List Int) (ds : List Int) : List (Nat × LoopAnn) := [(0, ⟨Unit, (List Int) × Int, [1, 2, 3, 4], fun e x => [.box 1 0, .box 2 0, .box 3 0, .val (.i .i64) x.2], fun e x => [(1, .slot 1, .cells [.val (.i .u8) h8, .val (.list (.i .u8)) ws, .val (.list (.i .u16)) rs, .val (.list (.i .u8)) ds] (some 58)), (2, .slot 2, .cells [.val (.i .i64) (0 : Int), .nilS] (some 27)), (3, .slot 3, .cells [.val (.i .i64) ((1 : Int) + (Int.tmod h8 (10 : Int))), .lst 48] (some 27)), (48, .cell 3 1, .lst 3 (.i .i64) x.1 (List.isEmpty x.1))]⟩)]
set_option maxRecDepth 100000 in
theorem vq_law11_Board_design (d : Int × List Int × List Int × List Int) : gwp (cx_law11_Board_design) (lp_law11_Board_design d.1 d.2.1 d.2.2.1 d.2.2.2) c32 0 (gend [.cell 2 true 2] (res_law11_Board_design d) (obs_law11_Board_design d)) (gstart 51 (AL.can al_law11_Board_design d)) = vc_law11_Board_design d.1 d.2.1 d.2.2.1 d.2.2.2 := by kernel_rfl
abbrev Ok_law11_Board_design : Prop := OkC Tryd.prog 32 s_law11_Board_design
theorem mk_law11_Board_design (h : ∀ (h8 : Int) (ws : List Int) (rs : List Int) (ds : List Int), (bOk h8 ws rs ds) → vc_law11_Board_design h8 ws rs ds) : OkC Tryd.prog 32 s_law11_Board_design :=
 okC_vc fun32 mixed (C := cx_law11_Board_design) (V := fun (d : Int × List Int × List Int × List Int) => vc_law11_Board_design d.1 d.2.1 d.2.2.1 d.2.2.2) ⟨.nil, XsOk.nil, ItsOk.nil⟩ (vq_law11_Board_design) fun d hp => h d.1 d.2.1 d.2.2.1 d.2.2.2 hp
theorem and_mask {x h : Int} (h0 : 0 ≤ x) (h1 : x < 9223372036854775808) (a : 1 ≤ h) (b : h ≤ 24) : vbits .and .i64 x (shlI .i64 1 h - 1) = x % 2 ^ h.toNat := by
 obtain ⟨n, rfl⟩ := Int.eq_ofNat_of_zero_le h0
 obtain ⟨m, rfl⟩ := Int.eq_ofNat_of_zero_le (show 0 ≤ h by omega)
 have hp := pow_bound a b
 rw [shl_one (by omega) (by omega)]
 simp only [Int.toNat_natCast] at hp ⊢
 have e2 : ((2 : Int) ^ m) = ((2 ^ m : Nat) : Int) := by rw [Int.natCast_pow]; rfl
 rw [e2] at hp ⊢
 have e : (((2 ^ m : Nat) : Int) - 1) = ((2 ^ m - 1 : Nat) : Int) := by omega
 rw [e, vand_nat (by omega) (by omega), Nat.and_two_pow_sub_one_eq_mod]
 rfl
theorem rowsN_len {hk : Int} {cap : Nat} {rs : List Int} : (rowsN hk cap rs).length = if rs = [] then 1 else min cap rs.length := by
 unfold rowsN; split <;> simp
theorem rowsN_get {hk : Int} {cap : Nat} {rs : List Int} {i : Nat} (h : i < rs.length) (hc : i < cap) : (rowsN hk cap rs)[i]? = some (rs.getD i 0 % 2 ^ hk.toNat) := by
 have hne : rs ≠ [] := by rintro rfl; simp at h
 unfold rowsN; rw [if_neg hne]
 simp [hc, h]
theorem ok_law11_Board_design : Ok_law11_Board_design := mk_law11_Board_design fun h8 ws rs ds h => by
 obtain ⟨h1, h2, hws, hrs, hds⟩ := h
 have hk : 1 ≤ bHk h8 ∧ bHk h8 ≤ 10 := hkN_range (m := 10) (by omega) h1
 have e : (1 + Int.tmod h8 10) = bHk h8 := rfl
 have hp := pow_bound hk.1 (show bHk h8 ≤ 24 by omega)
 have hs := shl_one (show 0 ≤ bHk h8 by omega) (show bHk h8 ≤ 62 by omega)
 have hm : ∀ x, 0 ≤ x → x < 9223372036854775808 → vbits .and .i64 x (2 ^ (bHk h8).toNat - 1) = x % 2 ^ (bHk h8).toNat := fun x a b => by
  have := and_mask a b hk.1 (show bHk h8 ≤ 24 by omega)
  rwa [hs] at this
 have hu : InK .u64 (bHk h8) := ⟨by show (0 : Int) ≤ _; omega, by show _ ≤ (18446744073709551615 : Int); omega⟩
 unfold vc_law11_Board_design; (try delta lI gD sT I64); simp only [true_and, and_true, exists_const, decide_eq_true_eq, decide_eq_false_iff_not, ne_eq, InK_i64, e, hs, hu]
 refine ⟨by omega, by omega, by omega, ([], 0), ⟨rfl, rfl, rfl⟩, ?_⟩
 have hN : (bRows h8 rs).length = if rs = [] then 1 else min 8 rs.length := rowsN_len
 have hcond : ∀ k : Nat, (((k : Int) == 0) || (decide ((k : Int) < rs.length) && decide ((k : Int) < 8))) = decide (k < (bRows h8 rs).length) := fun k => by
  rw [hN]
  by_cases hz : rs = []
  ·subst hz
   cases k <;> simp; omega
  ·have : 0 < rs.length := List.length_pos_iff.2 hz
   rw [if_neg hz]
   cases k with
   | zero => simp; omega
   | succ k =>
    rw [Bool.eq_iff_iff]
    simp; omega
 have hNle : (bRows h8 rs).length ≤ 8 := by rw [hN]; split <;> omega
 refine LoopP.count2 (bRows h8 rs).length (fun k xs => xs = (bRows h8 rs).take k) (by simp) fun k xs hk' hJ q hq => ?_
 dsimp only
 rw [hcond]
 simp only [decide_eq_true_eq, decide_eq_false_iff_not, Int.toNat_natCast, Int.ofNat_lt]
 refine ⟨fun hlt => ⟨fun hw => ?_, fun hw => ?_⟩, fun hge => ?_⟩
 ·have hw : k < rs.length := by omega
  have hrs' := hrs _ (List.getElem_mem hw)
  have hk8 : k < 8 := by omega
  simp only [getD_nat hw, List.length_singleton]
  have hv : (bRows h8 rs)[k] = rs[k] % 2 ^ (bHk h8).toNat := by
   have := rowsN_get (hk := bHk h8) hw hk8
   rw [getD_nat hw] at this
   have h3 := List.getElem?_eq_getElem hlt
   exact Option.some.inj (h3.symm.trans this)
  rw [hm _ (by omega) (by omega)]
  refine ⟨by omega, by omega, by omega, by omega, by omega, by omega, by rw [hJ, List.length_take]; omega, by omega, (xs ++ [rs[k] % 2 ^ (bHk h8).toNat], (k : Int) + 1), ⟨rfl, rfl, by simp⟩, hq _ hlt ?_⟩
  rw [take_succ_eq hlt, ← hJ, hv]
 ·have hz : rs = [] := by
   cases hrs : rs with
   | nil => rfl
   | cons a l =>
    exfalso
    rw [hN] at hlt
    have : rs ≠ [] := by rw [hrs]; simp
    rw [if_neg this] at hlt
    omega
  have hk0 : k = 0 := by rw [hN, if_pos hz] at hlt; omega
  subst hk0
  simp only [List.length_singleton]
  rw [hm _ (by omega) (by omega)]
  refine ⟨by omega, by omega, by omega, by rw [hJ, List.length_take]; omega, by omega, (xs ++ [21 % 2 ^ (bHk h8).toNat], 1), ⟨rfl, rfl, by simp⟩, hq _ hlt ?_⟩
  rw [take_succ_eq hlt, ← hJ]
  simp [bRows, rowsN, hz]
 ·have : k = (bRows h8 rs).length := by omega
  subst this
  rw [List.take_length] at hJ
  subst hJ
  refine ⟨rfl, ?_⟩
  rw [List.isEmpty_eq_false_iff]
  intro hz
  rw [hz] at hN
  split at hN
  ·cases hN
  ·rename_i hne
   have := List.length_pos_iff.2 hne
   simp only [List.length_nil] at hN
   omega
end Go.Proofs.Tryd
set_option linter.unusedVariables false
namespace Go.Proofs.Tryd
open Go Go.V Go.Proofs
theorem board_facts {h8 : Int} {ws rs ds : List Int} (hb : bOk h8 ws rs ds) : (1 ≤ bHk h8 ∧ bHk h8 ≤ 10) ∧ (∀ x ∈ bWarps h8 ws, 0 ≤ x ∧ x < bHk h8) ∧ 1 ≤ (bRows h8 rs).length ∧ (bRows h8 rs).length ≤ 8 ∧ ∀ x ∈ bRows h8 rs, 0 ≤ x ∧ x < 2 ^ (bHk h8).toNat := by
 obtain ⟨h1, h2, hws, hrs, hds⟩ := hb
 have hk : 1 ≤ bHk h8 ∧ bHk h8 ≤ 10 := hkN_range (m := 10) (by omega) h1
 have hp := pow_bound hk.1 (show bHk h8 ≤ 24 by omega)
 have hN : (bRows h8 rs).length = if rs = [] then 1 else min 8 rs.length := rowsN_len
 refine ⟨hk, fun x hx => ?_, ?_, by rw [hN]; split <;> omega, fun x hx => ?_⟩
 ·unfold bWarps warpsN at hx
  split at hx
  ·rw [List.mem_singleton.1 hx]; omega
  ·obtain ⟨y, hy, rfl⟩ := List.mem_map.1 hx
   have hy := hws y (List.mem_of_mem_take hy)
   exact ⟨Int.tmod_nonneg _ hy.1, Int.tmod_lt_of_pos _ (by omega)⟩
 ·rw [hN]; split
  ·omega
  ·rename_i h
   have := List.length_pos_iff.2 h
   omega
 ·unfold bRows rowsN at hx
  split at hx
  ·rw [List.mem_singleton.1 hx]
   exact ⟨Int.emod_nonneg _ (by omega), Int.emod_lt_of_pos _ (by omega)⟩
  ·obtain ⟨y, hy, rfl⟩ := List.mem_map.1 hx
   exact ⟨Int.emod_nonneg _ (by omega), Int.emod_lt_of_pos _ (by omega)⟩
theorem any_in {l : List Int} {a b : Int} (h : ∀ x ∈ l, a ≤ x ∧ x ≤ b) : (l.any fun x => !inI x a b) = false := by
 rw [List.any_eq_false]
 intro x hx
 have := h x hx
 simp [inI, this]
theorem tieErr_of {hk : Int} {lw : List Int} (h1 : 1 ≤ hk) (h2 : hk ≤ 24) (h3 : lw.length ≤ 96) (h4 : 1 ≤ lw.length) (h5 : ∀ x ∈ lw, 0 ≤ x ∧ x < hk) : tieErr hk lw = 0 := by
 unfold tieErr
 rw [if_neg (by simp [inI, h1, h2]), if_neg (by omega), if_neg (by omega), if_neg (by rw [any_in fun x hx => by have := h5 x hx; omega]; simp)]
theorem pointErr_of {hd : Int} {rows : List Int} (h1 : 1 ≤ hd) (h2 : hd ≤ 24) (h3 : rows.length ≤ 60) (h4 : 1 ≤ rows.length) (h5 : ∀ x ∈ rows, 0 ≤ x ∧ x < 2 ^ hd.toNat) : pointErr hd rows = 0 := by
 unfold pointErr
 rw [if_neg (by simp [inI, h1, h2]), if_neg (by omega), if_neg (by omega), if_neg (by rw [any_in fun x hx => by have := h5 x hx; omega]; simp)]
theorem eyeErr_of {hk : Int} {lw l : List Int} (ht : tieErr hk lw = 0) (hl : l.length = lw.length) (h : ∀ x ∈ l, -1 ≤ x ∧ x < lw.length) : eyeErr hk lw l = 0 := by
 unfold eyeErr
 rw [if_neg (by omega), if_neg (by omega), if_neg (by rw [any_in fun x hx => by have := h x hx; omega]; simp)]
theorem weaveErr_of {hk : Int} {lw rows : List Int} (ht : tieErr hk lw = 0) (hp : pointErr hk rows = 0) : weaveErr hk lw hk rows = 0 := by
 unfold weaveErr
 rw [if_neg (by omega), if_neg (by omega), if_neg (by omega)]
end Go.Proofs.Tryd
set_option linter.unusedVariables false
namespace Go.Proofs.Tryd
open Go Go.V Go.Proofs
structure TellsLoom (hk : Int) (lw rows l W : List Int) (EC WC : List (List UInt8)) : Prop where
 n1 : 1 ≤ lw.length
 n24 : lw.length ≤ 24
 r8 : rows.length ≤ 8
 h10 : hk ≤ 10
 len : l.length = lw.length
 val : ∀ x ∈ l, -1 ≤ x ∧ x < lw.length
 lwv : ∀ x ∈ lw, 0 ≤ x ∧ x < hk
 ee : eyeErr hk lw l = 0
 eC : eyeWErr hk lw l hk rows = 0
 eW : weaveErr hk lw hk rows = 0
 wE : eyeWC hk lw l hk rows = EC
 wW : weaveC hk lw hk rows = WC
 wr : wrongW hk lw l = W
 lE : EC.length = rows.length
 lW : WC.length = rows.length
 lE1 : ∀ p, p < rows.length → (EC.getD p []).length = lw.length
 lW1 : ∀ p, p < rows.length → (WC.getD p []).length = lw.length
 same : ∀ p i : Nat, p < rows.length → i < lw.length → (i : Int) ∉ W → (EC.getD p []).getD i 0 = (WC.getD p []).getD i 0
 loose : ∀ p i : Nat, p < rows.length → i < lw.length → l.getD i 0 < 0 → (EC.getD p []).getD i 0 = 46
 incr : W.Pairwise (· < ·)
 mem : ∀ x ∈ W, 0 ≤ x ∧ x < l.length
 wl : W.length ≤ l.length
 one : ∀ k : Nat, k < lw.length → eyeWErr hk lw l hk [2 ^ (lw.getD k 0).toNat] = 0 ∧ ∃ c, eyeWC hk lw l hk [2 ^ (lw.getD k 0).toNat] = [c] ∧ c.length = lw.length ∧ ((((c.getD k 0).toNat : Nat) : Int) == 120) = !decide ((k : Int) ∈ W)
theorem pickS_at {lw : List Int} {r : Int} {i : Nat} (h : i < lw.length) : (pickS lw r).getD i 0 = if r.toNat.testBit (lw.getD i 0).toNat then 120 else 46 := by
 rw [getD_nat (show i < (pickS lw r).length by simpa [pickS] using h), getD_nat h]
 simp [pickS]
theorem drawC_at {lw l : List Int} {r : Int} {i : Nat} (hl : l.length = lw.length) (hv : ∀ x ∈ l, -1 ≤ x ∧ x < lw.length) (h : i < lw.length) : (drawC l (pickS lw r)).getD i 0 = if l.getD i 0 = -1 then 46 else if r.toNat.testBit (lw.getD (l.getD i 0).toNat 0).toNat then 120 else 46 := by
 have hil : i < l.length := by omega
 have hv := hv _ (List.getElem_mem hil)
 rw [getD_nat (show i < (drawC l (pickS lw r)).length by simpa [drawC] using hil), getD_nat hil]
 simp only [drawC, List.getElem_map]
 by_cases h : l[i] = -1
 ·rw [if_pos h, if_pos h]
 ·rw [if_neg h, if_neg h, pickS_at (by omega)]
theorem drawC_len {l : List Int} {p : List UInt8} : (drawC l p).length = l.length := by simp [drawC]
theorem pickS_len {lw : List Int} {r : Int} : (pickS lw r).length = lw.length := by simp [pickS]
theorem wrong_mem {lw l : List Int} {k : Nat} (hk : k < l.length) : (k : Int) ∈ wrongI lw l ↔ isRight lw l k = false := by
 simp only [wrongI, wrongN, List.mem_map, List.mem_filter, List.mem_range, Bool.not_eq_true']
 constructor
 ·rintro ⟨w, ⟨_, h⟩, e⟩
  have : k = w := by omega
  rw [this]; exact h
 ·exact fun h => ⟨k, ⟨hk, h⟩, rfl⟩
theorem map_getD {α β : Type} {f : α → β} {l : List α} {p : Nat} {a : α} {b : β} (h : p < l.length) : (l.map f).getD p b = f (l.getD p a) := by
 rw [getD_nat (by simpa using h), getD_nat h, List.getElem_map]
theorem tells_loom {hk : Int} {lw rows l : List Int} (h1 : 1 ≤ hk ∧ hk ≤ 10) (hlw : ∀ x ∈ lw, 0 ≤ x ∧ x < hk) (hr1 : 1 ≤ rows.length) (hr8 : rows.length ≤ 8) (hr : ∀ x ∈ rows, 0 ≤ x ∧ x < 2 ^ hk.toNat) (n1 : 1 ≤ lw.length) (n24 : lw.length ≤ 24) (len : l.length = lw.length) (val : ∀ x ∈ l, -1 ≤ x ∧ x < lw.length) :
  TellsLoom hk lw rows l (wrongI lw l) (rows.map fun r => drawC l (pickS lw r)) (rows.map (pickS lw)) := by
 have te := tieErr_of h1.1 (by omega) (by omega) n1 hlw
 have pe := pointErr_of h1.1 (by omega) (by omega) hr1 hr
 have we := weaveErr_of te pe
 have ee := eyeErr_of te len val
 have eC : eyeWErr hk lw l hk rows = 0 := by unfold eyeWErr; rw [if_neg (by omega), we]
 have rt : ∀ i : Nat, i < lw.length → (isRight lw l i = true ↔ l.getD i 0 ≠ -1 ∧ lw.getD (l.getD i 0).toNat 0 = lw.getD i 0) := fun i hi => by
  simp only [isRight, Int.toNat_natCast, Bool.and_eq_true, bne_iff_ne, ne_eq, beq_iff_eq]
 refine ⟨n1, n24, hr8, h1.2, len, val, hlw, ee, eC, we, by simp [eyeWC, eC], by simp [weaveC, we], by simp [wrongW, ee], by simp, by simp, fun p hp => ?_, fun p hp => ?_, fun p i hp hi hm => ?_, fun p i hp hi hm => ?_, ?_, fun x hx => ?_, wrongN_len _ _ _, fun k hk' => ?_⟩
 ·rw [map_getD (a := 0) hp, drawC_len, len]
 ·rw [map_getD (a := 0) hp, pickS_len]
 ·rw [map_getD (a := 0) hp, map_getD (a := 0) hp, drawC_at len val hi, pickS_at hi]
  have : isRight lw l i = true := by
   cases h : isRight lw l i with
   | true => rfl
   | false => exact absurd ((wrong_mem (by omega)).2 h) hm
  obtain ⟨g1, g2⟩ := (rt i hi).1 this
  rw [if_neg g1, g2]
 ·rw [map_getD (a := 0) hp, drawC_at len val hi, if_pos]
  have := val _ (List.getElem_mem (show i < l.length by omega))
  rw [← getD_nat (d := 0)] at this
  omega
 ·simp only [wrongI, wrongN]
  rw [List.pairwise_map]
  exact (List.pairwise_lt_range.filter _).imp fun h => by omega
 ·simp only [wrongI, wrongN, List.mem_map, List.mem_filter, List.mem_range] at hx
  obtain ⟨w, ⟨hw, _⟩, rfl⟩ := hx
  omega
 ·have hv := hlw _ (List.getElem_mem hk')
  rw [← getD_nat (d := 0)] at hv
  have hp1 : (2 : Int) ^ (lw.getD k 0).toNat < 2 ^ hk.toNat := by
   have : (2 : Nat) ^ (lw.getD k 0).toNat < 2 ^ hk.toNat := Nat.pow_lt_pow_right (by omega) (by omega)
   have e1 : ((2 : Int) ^ (lw.getD k 0).toNat) = ((2 ^ (lw.getD k 0).toNat : Nat) : Int) := by rw [Int.natCast_pow]; rfl
   have e2 : ((2 : Int) ^ hk.toNat) = ((2 ^ hk.toNat : Nat) : Int) := by rw [Int.natCast_pow]; rfl
   rw [e1, e2]; omega
  have hp0 : (0 : Int) ≤ 2 ^ (lw.getD k 0).toNat := Int.le_of_lt (Int.pow_pos (by omega))
  have pe1 := pointErr_of (hd := hk) (rows := [2 ^ (lw.getD k 0).toNat]) h1.1 (by omega) (by simp) (by simp) fun x hx => by rw [List.mem_singleton.1 hx]; exact ⟨hp0, hp1⟩
  have we1 := weaveErr_of te pe1
  have e1 : eyeWErr hk lw l hk [2 ^ (lw.getD k 0).toNat] = 0 := by unfold eyeWErr; rw [if_neg (by omega), we1]
  refine ⟨e1, drawC l (pickS lw (2 ^ (lw.getD k 0).toNat)), by unfold eyeWC; rw [if_pos e1]; rfl, by rw [drawC_len, len], ?_⟩
  rw [drawC_at len val hk']
  have et : ((2 : Int) ^ (lw.getD k 0).toNat).toNat = 2 ^ (lw.getD k 0).toNat := by
   have e1 : ((2 : Int) ^ (lw.getD k 0).toNat) = ((2 ^ (lw.getD k 0).toNat : Nat) : Int) := by rw [Int.natCast_pow]; rfl
   rw [e1]; rfl
  rw [et]
  have hw := wrong_mem (lw := lw) (l := l) (k := k) (by omega)
  have hr' := rt k hk'
  by_cases hr1 : l.getD k 0 = -1
  ·have : isRight lw l k = false := by
    cases h : isRight lw l k with
    | false => rfl
    | true => exact absurd hr1 (hr'.1 h).1
   rw [if_pos hr1, decide_eq_true (hw.2 this)]; rfl
  ·rw [if_neg hr1]
   have hlk := val _ (List.getElem_mem (show k < l.length by omega))
   rw [← getD_nat (d := 0)] at hlk
   have hx := hlw _ (List.getElem_mem (show (l.getD k 0).toNat < lw.length by omega))
   rw [← getD_nat (d := 0)] at hx
   by_cases hr2 : lw.getD (l.getD k 0).toNat 0 = lw.getD k 0
   ·have : ¬ (k : Int) ∈ wrongI lw l := fun h => by rw [hr'.2 ⟨hr1, hr2⟩] at hw; exact absurd (hw.1 h) (by simp)
    rw [hr2, Nat.testBit_two_pow_self, if_pos rfl, decide_eq_false this]; rfl
   ·have : isRight lw l k = false := by
     cases h : isRight lw l k with
     | false => rfl
     | true => exact absurd (hr'.1 h).2 hr2
    rw [Nat.testBit_two_pow_of_ne (by omega), if_neg (by simp), decide_eq_true (hw.2 this)]; rfl
end Go.Proofs.Tryd
set_option linter.unusedVariables false
namespace Go.Proofs.Tryd
open Go Go.V Go.Proofs
def al_law11_EyeTells : AL ((Int × List Int × List Int × List Int) × Int) := (.cons (.agg (.cons (.k (.i .u8)) (.cons (.k (.list (.i .u8))) (.cons (.k (.list (.i .u16))) (.one (.k (.list (.i .u8)))))))) (.one (.k (.i .u8))))
def pre_law11_EyeTells (d : (Int × List Int × List Int × List Int) × Int) : Prop := bOk d.1.1 d.1.2.1 d.1.2.2.1 d.1.2.2.2 ∧ 0 ≤ d.2 ∧ d.2 ≤ 255
def res_law11_EyeTells (d : (Int × List Int × List Int × List Int) × Int) : SV := .val .bo true
def obs_law11_EyeTells (d : (Int × List Int × List Int × List Int) × Int) : List OB := []
def s_law11_EyeTells : CSp := mkSp al_law11_EyeTells pre_law11_EyeTells res_law11_EyeTells obs_law11_EyeTells
def vc_law11_EyeTells (h8 : Int) (ws : List Int) (rs : List Int) (ds : List Int) (wh : Int) : Prop :=
 (bOk h8 ws rs ds) ∧ (false = true → (bWarps h8 ws) = []) ∧ (bOk h8 ws rs ds) ∧ (false = true → (bRows h8 rs) = []) ∧ ((wh = wh ∧ True ∧ True ∧ True ∧ True ∧ True ∧ True ∧ ((bHk h8) = (bHk h8) ∧ True ∧ (([] : List SV) = [])) ∧ ((bHk h8) = (bHk h8) ∧ True ∧ (([] : List SV) = [])) ∧ True ∧ True ∧ True ∧ True) ∧ ((h8 = h8 ∧ ws = ws ∧ rs = rs ∧ ds = ds ∧ (([] : List SV) = [])) ∧ ((0 : Int) = (0 : Int) ∧ True ∧ (([] : List SV) = [])) ∧ ((0 : Int) = (0 : Int) ∧ True ∧ (([] : List SV) = [])) ∧ ((bWarps h8 ws) = (bWarps h8 ws) ∧ false = false) ∧ ((bRows h8 rs) = (bRows h8 rs) ∧ false = false) ∧ True)) ∧ ((bOk h8 ws rs ds) ∧ (false = true → (bWarps h8 ws) = []) ∧ (bOk h8 ws rs ds) ∧ (false = true → (bRows h8 rs) = []) ∧ ((wh = wh ∧ True ∧ True ∧ True ∧ True ∧ True ∧ True ∧ ((bHk h8) = (bHk h8) ∧ True ∧ (([] : List SV) = [])) ∧ ((bHk h8) = (bHk h8) ∧ True ∧ (([] : List SV) = [])) ∧ True ∧ True ∧ True ∧ True) ∧ ((h8 = h8 ∧ ws = ws ∧ rs = rs ∧ ds = ds ∧ (([] : List SV) = [])) ∧ ((0 : Int) = (0 : Int) ∧ True ∧ (([] : List SV) = [])) ∧ ((0 : Int) = (0 : Int) ∧ True ∧ (([] : List SV) = [])) ∧ ((bWarps h8 ws) = (bWarps h8 ws) ∧ false = false) ∧ ((bRows h8 rs) = (bRows h8 rs) ∧ false = false) ∧ True))) ∧ ((bOk h8 ws rs ds) ∧ (false = true → (bWarps h8 ws) = []) ∧ (bOk h8 ws rs ds) ∧ (false = true → (bRows h8 rs) = []) ∧ ((wh = wh ∧ True ∧ True ∧ True ∧ True ∧ True ∧ True ∧ ((bHk h8) = (bHk h8) ∧ True ∧ (([] : List SV) = [])) ∧ ((bHk h8) = (bHk h8) ∧ True ∧ (([] : List SV) = [])) ∧ True ∧ True ∧ True ∧ True) ∧ ((h8 = h8 ∧ ws = ws ∧ rs = rs ∧ ds = ds ∧ (([] : List SV) = [])) ∧ ((0 : Int) = (0 : Int) ∧ True ∧ (([] : List SV) = [])) ∧ ((0 : Int) = (0 : Int) ∧ True ∧ (([] : List SV) = [])) ∧ ((bWarps h8 ws) = (bWarps h8 ws) ∧ false = false) ∧ ((bRows h8 rs) = (bRows h8 rs) ∧ false = false) ∧ True))) ∧ ((bOk h8 ws rs ds) ∧ (false = true → (bWarps h8 ws) = []) ∧ (bOk h8 ws rs ds) ∧ (false = true → (bRows h8 rs) = []) ∧ ((wh = wh ∧ True ∧ True ∧ True ∧ True ∧ True ∧ True ∧ ((bHk h8) = (bHk h8) ∧ True ∧ (([] : List SV) = [])) ∧ ((bHk h8) = (bHk h8) ∧ True ∧ (([] : List SV) = [])) ∧ True ∧ True ∧ True ∧ True) ∧ ((h8 = h8 ∧ ws = ws ∧ rs = rs ∧ ds = ds ∧ (([] : List SV) = [])) ∧ ((0 : Int) = (0 : Int) ∧ True ∧ (([] : List SV) = [])) ∧ ((0 : Int) = (0 : Int) ∧ True ∧ (([] : List SV) = [])) ∧ ((bWarps h8 ws) = (bWarps h8 ws) ∧ false = false) ∧ ((bRows h8 rs) = (bRows h8 rs) ∧ false = false) ∧ True))) ∧ ((bOk h8 ws rs ds) ∧ (false = true → (bWarps h8 ws) = []) ∧ (bOk h8 ws rs ds) ∧ (false = true → (bRows h8 rs) = []) ∧ ((wh = wh ∧ True ∧ True ∧ True ∧ True ∧ True ∧ True ∧ ((bHk h8) = (bHk h8) ∧ True ∧ (([] : List SV) = [])) ∧ ((bHk h8) = (bHk h8) ∧ True ∧ (([] : List SV) = [])) ∧ True ∧ True ∧ True ∧ True) ∧ ((h8 = h8 ∧ ws = ws ∧ rs = rs ∧ ds = ds ∧ (([] : List SV) = [])) ∧ ((0 : Int) = (0 : Int) ∧ True ∧ (([] : List SV) = [])) ∧ ((0 : Int) = (0 : Int) ∧ True ∧ (([] : List SV) = [])) ∧ ((bWarps h8 ws) = (bWarps h8 ws) ∧ false = false) ∧ ((bRows h8 rs) = (bRows h8 rs) ∧ false = false) ∧ True))) ∧ ((bOk h8 ws rs ds) ∧ (false = true → (bWarps h8 ws) = []) ∧ (bOk h8 ws rs ds) ∧ (false = true → (bRows h8 rs) = []) ∧ ((wh = wh ∧ True ∧ True ∧ True ∧ True ∧ True ∧ True ∧ ((bHk h8) = (bHk h8) ∧ True ∧ (([] : List SV) = [])) ∧ ((bHk h8) = (bHk h8) ∧ True ∧ (([] : List SV) = [])) ∧ True ∧ True ∧ True ∧ True) ∧ ((h8 = h8 ∧ ws = ws ∧ rs = rs ∧ ds = ds ∧ (([] : List SV) = [])) ∧ ((0 : Int) = (0 : Int) ∧ True ∧ (([] : List SV) = [])) ∧ ((0 : Int) = (0 : Int) ∧ True ∧ (([] : List SV) = [])) ∧ ((bWarps h8 ws) = (bWarps h8 ws) ∧ false = false) ∧ ((bRows h8 rs) = (bRows h8 rs) ∧ false = false) ∧ True))) ∧ ((bOk h8 ws rs ds) ∧ (false = true → (bWarps h8 ws) = []) ∧ (bOk h8 ws rs ds) ∧ (false = true → (bRows h8 rs) = []) ∧ ((wh = wh ∧ True ∧ True ∧ True ∧ True ∧ True ∧ True ∧ ((bHk h8) = (bHk h8) ∧ True ∧ (([] : List SV) = [])) ∧ ((bHk h8) = (bHk h8) ∧ True ∧ (([] : List SV) = [])) ∧ True ∧ True ∧ True ∧ True) ∧ ((h8 = h8 ∧ ws = ws ∧ rs = rs ∧ ds = ds ∧ (([] : List SV) = [])) ∧ ((0 : Int) = (0 : Int) ∧ True ∧ (([] : List SV) = [])) ∧ ((0 : Int) = (0 : Int) ∧ True ∧ (([] : List SV) = [])) ∧ ((bWarps h8 ws) = (bWarps h8 ws) ∧ false = false) ∧ ((bRows h8 rs) = (bRows h8 rs) ∧ false = false) ∧ True))) ∧ ((bOk h8 ws rs ds) ∧ (false = true → (bWarps h8 ws) = []) ∧ (bOk h8 ws rs ds) ∧ (false = true → (bRows h8 rs) = []) ∧ ((wh = wh ∧ True ∧ True ∧ True ∧ True ∧ True ∧ True ∧ ((bHk h8) = (bHk h8) ∧ True ∧ (([] : List SV) = [])) ∧ ((bHk h8) = (bHk h8) ∧ True ∧ (([] : List SV) = [])) ∧ True ∧ True ∧ True ∧ True) ∧ ((h8 = h8 ∧ ws = ws ∧ rs = rs ∧ ds = ds ∧ (([] : List SV) = [])) ∧ ((0 : Int) = (0 : Int) ∧ True ∧ (([] : List SV) = [])) ∧ ((0 : Int) = (0 : Int) ∧ True ∧ (([] : List SV) = [])) ∧ ((bWarps h8 ws) = (bWarps h8 ws) ∧ false = false) ∧ ((bRows h8 rs) = (bRows h8 rs) ∧ false = false) ∧ True))) ∧ ((bOk h8 ws rs ds) ∧ (false = true → (bWarps h8 ws) = []) ∧ (bOk h8 ws rs ds) ∧ (false = true → (bRows h8 rs) = []) ∧ ((wh = wh ∧ True ∧ True ∧ True ∧ True ∧ True ∧ True ∧ ((bHk h8) = (bHk h8) ∧ True ∧ (([] : List SV) = [])) ∧ ((bHk h8) = (bHk h8) ∧ True ∧ (([] : List SV) = [])) ∧ True ∧ True ∧ True ∧ True) ∧ ((h8 = h8 ∧ ws = ws ∧ rs = rs ∧ ds = ds ∧ (([] : List SV) = [])) ∧ ((0 : Int) = (0 : Int) ∧ True ∧ (([] : List SV) = [])) ∧ ((0 : Int) = (0 : Int) ∧ True ∧ (([] : List SV) = [])) ∧ ((bWarps h8 ws) = (bWarps h8 ws) ∧ false = false) ∧ ((bRows h8 rs) = (bRows h8 rs) ∧ false = false) ∧ True))) ∧ ((bOk h8 ws rs ds) ∧ (false = true → (bWarps h8 ws) = []) ∧ (bOk h8 ws rs ds) ∧ (false = true → (bRows h8 rs) = []) ∧ ((wh = wh ∧ True ∧ True ∧ True ∧ True ∧ True ∧ True ∧ ((bHk h8) = (bHk h8) ∧ True ∧ (([] : List SV) = [])) ∧ ((bHk h8) = (bHk h8) ∧ True ∧ (([] : List SV) = [])) ∧ True ∧ True ∧ True ∧ True) ∧ ((h8 = h8 ∧ ws = ws ∧ rs = rs ∧ ds = ds ∧ (([] : List SV) = [])) ∧ ((0 : Int) = (0 : Int) ∧ True ∧ (([] : List SV) = [])) ∧ ((0 : Int) = (0 : Int) ∧ True ∧ (([] : List SV) = [])) ∧ ((bWarps h8 ws) = (bWarps h8 ws) ∧ false = false) ∧ ((bRows h8 rs) = (bRows h8 rs) ∧ false = false) ∧ True))) ∧ ((bOk h8 ws rs ds) ∧ (false = true → (bWarps h8 ws) = []) ∧ (bOk h8 ws rs ds) ∧ (false = true → (bRows h8 rs) = []) ∧ ((wh = wh ∧ True ∧ True ∧ True ∧ True ∧ True ∧ True ∧ ((bHk h8) = (bHk h8) ∧ True ∧ (([] : List SV) = [])) ∧ ((bHk h8) = (bHk h8) ∧ True ∧ (([] : List SV) = [])) ∧ True ∧ True ∧ True ∧ True) ∧ ((h8 = h8 ∧ ws = ws ∧ rs = rs ∧ ds = ds ∧ (([] : List SV) = [])) ∧ ((0 : Int) = (0 : Int) ∧ True ∧ (([] : List SV) = [])) ∧ ((0 : Int) = (0 : Int) ∧ True ∧ (([] : List SV) = [])) ∧ ((bWarps h8 ws) = (bWarps h8 ws) ∧ false = false) ∧ ((bRows h8 rs) = (bRows h8 rs) ∧ false = false) ∧ True))) ∧ ((bOk h8 ws rs ds) ∧ (false = true → (bWarps h8 ws) = []) ∧ (bOk h8 ws rs ds) ∧ (false = true → (bRows h8 rs) = []) ∧ ((wh = wh ∧ True ∧ True ∧ True ∧ True ∧ True ∧ True ∧ ((bHk h8) = (bHk h8) ∧ True ∧ (([] : List SV) = [])) ∧ ((bHk h8) = (bHk h8) ∧ True ∧ (([] : List SV) = [])) ∧ True ∧ True ∧ True ∧ True) ∧ ((h8 = h8 ∧ ws = ws ∧ rs = rs ∧ ds = ds ∧ (([] : List SV) = [])) ∧ ((0 : Int) = (0 : Int) ∧ True ∧ (([] : List SV) = [])) ∧ ((0 : Int) = (0 : Int) ∧ True ∧ (([] : List SV) = [])) ∧ ((bWarps h8 ws) = (bWarps h8 ws) ∧ false = false) ∧ ((bRows h8 rs) = (bRows h8 rs) ∧ false = false) ∧ True))) ∧ (1 ≤ (lI (bWarps h8 ws)) ∧ (lI (bWarps h8 ws)) ≤ 24 ∧ bOk h8 ws rs ds) ∧ ((bWarps h8 ws).length ≤ 110) ∧ ((bDraw ds (lI (bWarps h8 ws)).toNat).length ≤ 110) ∧ ((bWarps h8 ws).length ≤ 110 ∧ (bDraw ds (lI (bWarps h8 ws)).toNat).length ≤ 110) ∧ ((bWarps h8 ws).length ≤ 110) ∧ (false = true → (bWarps h8 ws) = []) ∧ ((bDraw ds (lI (bWarps h8 ws)).toNat).length ≤ 110) ∧ (false = true → (bDraw ds (lI (bWarps h8 ws)).toNat) = []) ∧ ((bRows h8 rs).length ≤ 110) ∧ ((bWarps h8 ws).length ≤ 110 ∧ (bDraw ds (lI (bWarps h8 ws)).toNat).length ≤ 110 ∧ (bRows h8 rs).length ≤ 110) ∧ ((bWarps h8 ws).length ≤ 110) ∧ (false = true → (bWarps h8 ws) = []) ∧ ((bRows h8 rs).length ≤ 110) ∧ ((bWarps h8 ws).length ≤ 110 ∧ (bRows h8 rs).length ≤ 110) ∧ ∀ (y1 : Bool), y1 = (eyeErr (bHk h8) (bWarps h8 ws) (bDraw ds (lI (bWarps h8 ws)).toNat) != (0 : Int)) → ∀ (y2 : Bool), y2 = (eyeWErr (bHk h8) (bWarps h8 ws) (bDraw ds (lI (bWarps h8 ws)).toNat) (bHk h8) (bRows h8 rs) != (0 : Int)) → ∀ (y3 : Bool), y3 = (y1 || y2) → ∀ (y4 : Bool), y4 = (weaveErr (bHk h8) (bWarps h8 ws) (bHk h8) (bRows h8 rs) != (0 : Int)) → ∀ (y5 : Bool), y5 = (y3 || y4) → ∀ (y6 : Bool), y6 = ((lI (eyeWC (bHk h8) (bWarps h8 ws) (bDraw ds (lI (bWarps h8 ws)).toNat) (bHk h8) (bRows h8 rs))) != (lI (weaveC (bHk h8) (bWarps h8 ws) (bHk h8) (bRows h8 rs)))) → ∀ (y7 : Bool), y7 = (y5 || y6) → (y7 = true →
  (false = true ∧ (True))) ∧
 (y7 = false →
  ∃ (e3 : Unit) (d30 : (List (Int × Bool)) × Int), ((wh = wh ∧ True ∧ (lI (bWarps h8 ws)) = (lI (bWarps h8 ws)) ∧ True ∧ True ∧ True ∧ True ∧ True ∧ (0 : Int) = d30.2 ∧ True) ∧ (((bHk h8) = (bHk h8) ∧ True ∧ (([] : List SV) = [])) ∧ ((bWarps h8 ws) = (bWarps h8 ws) ∧ false = false) ∧ ((bDraw ds (lI (bWarps h8 ws)).toNat) = (bDraw ds (lI (bWarps h8 ws)).toNat) ∧ false = false) ∧ ((wrongW (bHk h8) (bWarps h8 ws) (bDraw ds (lI (bWarps h8 ws)).toNat)) = (wrongW (bHk h8) (bWarps h8 ws) (bDraw ds (lI (bWarps h8 ws)).toNat)) ∧ (wrongW (bHk h8) (bWarps h8 ws) (bDraw ds (lI (bWarps h8 ws)).toNat)).isEmpty = (List.isEmpty (wrongW (bHk h8) (bWarps h8 ws) (bDraw ds (lI (bWarps h8 ws)).toNat)))) ∧ ((eyeWC (bHk h8) (bWarps h8 ws) (bDraw ds (lI (bWarps h8 ws)).toNat) (bHk h8) (bRows h8 rs)) = (eyeWC (bHk h8) (bWarps h8 ws) (bDraw ds (lI (bWarps h8 ws)).toNat) (bHk h8) (bRows h8 rs)) ∧ (eyeWC (bHk h8) (bWarps h8 ws) (bDraw ds (lI (bWarps h8 ws)).toNat) (bHk h8) (bRows h8 rs)).isEmpty = (List.isEmpty (eyeWC (bHk h8) (bWarps h8 ws) (bDraw ds (lI (bWarps h8 ws)).toNat) (bHk h8) (bRows h8 rs)))) ∧ ((weaveC (bHk h8) (bWarps h8 ws) (bHk h8) (bRows h8 rs)) = (weaveC (bHk h8) (bWarps h8 ws) (bHk h8) (bRows h8 rs)) ∧ (weaveC (bHk h8) (bWarps h8 ws) (bHk h8) (bRows h8 rs)).isEmpty = (List.isEmpty (weaveC (bHk h8) (bWarps h8 ws) (bHk h8) (bRows h8 rs)))) ∧ (([] : List (Int × Bool)) = d30.1) ∧ True)) ∧
  LoopP (fun (d3 : (List (Int × Bool)) × Int) (q3 : ((List (Int × Bool)) × Int) → Prop) =>
   ∀ (y34 : Bool), y34 = (decide (d3.2 < (lI (wrongW (bHk h8) (bWarps h8 ws) (bDraw ds (lI (bWarps h8 ws)).toNat))))) → (y34 = true →
    (0 ≤ d3.2) ∧ (d3.2 < (List.length (wrongW (bHk h8) (bWarps h8 ws) (bDraw ds (lI (bWarps h8 ws)).toNat)))) ∧ ∀ (y35 : Int), y35 = (gD (wrongW (bHk h8) (bWarps h8 ws) (bDraw ds (lI (bWarps h8 ws)).toNat)) d3.2 0) → ∀ (y36 : Bool), y36 = (decide (y35 < (0 : Int))) → (y36 = false → 0 ≤ d3.2) ∧ (y36 = false → d3.2 < (List.length (wrongW (bHk h8) (bWarps h8 ws) (bDraw ds (lI (bWarps h8 ws)).toNat)))) ∧ ∀ (y37 : Int), y37 = (gD (wrongW (bHk h8) (bWarps h8 ws) (bDraw ds (lI (bWarps h8 ws)).toNat)) d3.2 0) → ∀ (y38 : Bool), y38 = (decide (y37 ≥ (lI (bWarps h8 ws)))) → ∀ (y39 : Bool), y39 = (y36 || y38) → ∀ (y40 : Bool), y40 = (decide (d3.2 > (0 : Int))) → (y39 = false → y40 = true → 0 ≤ d3.2) ∧ (y39 = false → y40 = true → d3.2 < (List.length (wrongW (bHk h8) (bWarps h8 ws) (bDraw ds (lI (bWarps h8 ws)).toNat)))) ∧ ∀ (y41 : Int), y41 = (gD (wrongW (bHk h8) (bWarps h8 ws) (bDraw ds (lI (bWarps h8 ws)).toNat)) d3.2 0) → (y39 = false → y40 = true → InK .i64 (d3.2 - (1 : Int))) ∧ (y39 = false → y40 = true → 0 ≤ (d3.2 - (1 : Int))) ∧ (y39 = false → y40 = true → (d3.2 - (1 : Int)) < (List.length (wrongW (bHk h8) (bWarps h8 ws) (bDraw ds (lI (bWarps h8 ws)).toNat)))) ∧ ∀ (y42 : Int), y42 = (gD (wrongW (bHk h8) (bWarps h8 ws) (bDraw ds (lI (bWarps h8 ws)).toNat)) (d3.2 - (1 : Int)) 0) → ∀ (y43 : Bool), y43 = (decide (y41 ≤ y42)) → ∀ (y44 : Bool), y44 = (y40 && y43) → ∀ (y45 : Bool), y45 = (y39 || y44) → (y45 = true →
     (false = true ∧ (True))) ∧
    (y45 = false →
     (0 ≤ d3.2) ∧ (d3.2 < (List.length (wrongW (bHk h8) (bWarps h8 ws) (bDraw ds (lI (bWarps h8 ws)).toNat)))) ∧ ∀ (y46 : Int), y46 = (gD (wrongW (bHk h8) (bWarps h8 ws) (bDraw ds (lI (bWarps h8 ws)).toNat)) d3.2 0) → (I64 (d3.2 + (1 : Int))) ∧ (∃ d4 : (List (Int × Bool)) × Int, ((wh = wh ∧ True ∧ (lI (bWarps h8 ws)) = (lI (bWarps h8 ws)) ∧ True ∧ True ∧ True ∧ True ∧ True ∧ (d3.2 + (1 : Int)) = d4.2 ∧ True) ∧ (((bHk h8) = (bHk h8) ∧ True ∧ (([] : List SV) = [])) ∧ ((bWarps h8 ws) = (bWarps h8 ws) ∧ false = false) ∧ ((bDraw ds (lI (bWarps h8 ws)).toNat) = (bDraw ds (lI (bWarps h8 ws)).toNat) ∧ false = false) ∧ ((wrongW (bHk h8) (bWarps h8 ws) (bDraw ds (lI (bWarps h8 ws)).toNat)) = (wrongW (bHk h8) (bWarps h8 ws) (bDraw ds (lI (bWarps h8 ws)).toNat)) ∧ (List.isEmpty (wrongW (bHk h8) (bWarps h8 ws) (bDraw ds (lI (bWarps h8 ws)).toNat))) = (List.isEmpty (wrongW (bHk h8) (bWarps h8 ws) (bDraw ds (lI (bWarps h8 ws)).toNat)))) ∧ ((eyeWC (bHk h8) (bWarps h8 ws) (bDraw ds (lI (bWarps h8 ws)).toNat) (bHk h8) (bRows h8 rs)) = (eyeWC (bHk h8) (bWarps h8 ws) (bDraw ds (lI (bWarps h8 ws)).toNat) (bHk h8) (bRows h8 rs)) ∧ (List.isEmpty (eyeWC (bHk h8) (bWarps h8 ws) (bDraw ds (lI (bWarps h8 ws)).toNat) (bHk h8) (bRows h8 rs))) = (List.isEmpty (eyeWC (bHk h8) (bWarps h8 ws) (bDraw ds (lI (bWarps h8 ws)).toNat) (bHk h8) (bRows h8 rs)))) ∧ ((weaveC (bHk h8) (bWarps h8 ws) (bHk h8) (bRows h8 rs)) = (weaveC (bHk h8) (bWarps h8 ws) (bHk h8) (bRows h8 rs)) ∧ (List.isEmpty (weaveC (bHk h8) (bWarps h8 ws) (bHk h8) (bRows h8 rs))) = (List.isEmpty (weaveC (bHk h8) (bWarps h8 ws) (bHk h8) (bRows h8 rs)))) ∧ ((aput (.i .i64) d3.1 y46 true) = d4.1) ∧ True)) ∧ q3 d4))) ∧
   (y34 = false →
    ∃ (e7 : (List (Int × Bool))) (d70 : Int), ((wh = wh ∧ True ∧ (lI (bWarps h8 ws)) = (lI (bWarps h8 ws)) ∧ True ∧ True ∧ True ∧ True ∧ (0 : Int) = d70 ∧ True) ∧ (((bHk h8) = (bHk h8) ∧ True ∧ (([] : List SV) = [])) ∧ ((bWarps h8 ws) = (bWarps h8 ws) ∧ false = false) ∧ ((bDraw ds (lI (bWarps h8 ws)).toNat) = (bDraw ds (lI (bWarps h8 ws)).toNat) ∧ false = false) ∧ ((eyeWC (bHk h8) (bWarps h8 ws) (bDraw ds (lI (bWarps h8 ws)).toNat) (bHk h8) (bRows h8 rs)) = (eyeWC (bHk h8) (bWarps h8 ws) (bDraw ds (lI (bWarps h8 ws)).toNat) (bHk h8) (bRows h8 rs)) ∧ (List.isEmpty (eyeWC (bHk h8) (bWarps h8 ws) (bDraw ds (lI (bWarps h8 ws)).toNat) (bHk h8) (bRows h8 rs))) = (List.isEmpty (eyeWC (bHk h8) (bWarps h8 ws) (bDraw ds (lI (bWarps h8 ws)).toNat) (bHk h8) (bRows h8 rs)))) ∧ ((weaveC (bHk h8) (bWarps h8 ws) (bHk h8) (bRows h8 rs)) = (weaveC (bHk h8) (bWarps h8 ws) (bHk h8) (bRows h8 rs)) ∧ (List.isEmpty (weaveC (bHk h8) (bWarps h8 ws) (bHk h8) (bRows h8 rs))) = (List.isEmpty (weaveC (bHk h8) (bWarps h8 ws) (bHk h8) (bRows h8 rs)))) ∧ (d3.1 = e7) ∧ True)) ∧
    LoopP (fun (d7 : Int) (q7 : (Int) → Prop) =>
     ∀ (y155 : Bool), y155 = (decide (d7 < (lI (eyeWC (bHk h8) (bWarps h8 ws) (bDraw ds (lI (bWarps h8 ws)).toNat) (bHk h8) (bRows h8 rs))))) → (y155 = true →
      (0 ≤ d7) ∧ (d7 < (List.length (eyeWC (bHk h8) (bWarps h8 ws) (bDraw ds (lI (bWarps h8 ws)).toNat) (bHk h8) (bRows h8 rs)))) ∧ ∀ (y156 : List UInt8), y156 = (gD (eyeWC (bHk h8) (bWarps h8 ws) (bDraw ds (lI (bWarps h8 ws)).toNat) (bHk h8) (bRows h8 rs)) d7 []) → ∀ (y157 : Bool), y157 = ((lI y156) != (lI (bWarps h8 ws))) → (y157 = false → 0 ≤ d7) ∧ (y157 = false → d7 < (List.length (weaveC (bHk h8) (bWarps h8 ws) (bHk h8) (bRows h8 rs)))) ∧ ∀ (y158 : List UInt8), y158 = (gD (weaveC (bHk h8) (bWarps h8 ws) (bHk h8) (bRows h8 rs)) d7 []) → ∀ (y159 : Bool), y159 = ((lI y158) != (lI (bWarps h8 ws))) → ∀ (y160 : Bool), y160 = (y157 || y159) → (y160 = true →
       (false = true ∧ (True))) ∧
      (y160 = false →
       ∃ (e10 : (List (Int × Bool)) × Int) (d100 : Int), ((wh = wh ∧ True ∧ (lI (bWarps h8 ws)) = (lI (bWarps h8 ws)) ∧ True ∧ True ∧ True ∧ True ∧ d7 = e10.2 ∧ (0 : Int) = d100 ∧ True) ∧ (((bHk h8) = (bHk h8) ∧ True ∧ (([] : List SV) = [])) ∧ ((bWarps h8 ws) = (bWarps h8 ws) ∧ false = false) ∧ ((bDraw ds (lI (bWarps h8 ws)).toNat) = (bDraw ds (lI (bWarps h8 ws)).toNat) ∧ false = false) ∧ ((eyeWC (bHk h8) (bWarps h8 ws) (bDraw ds (lI (bWarps h8 ws)).toNat) (bHk h8) (bRows h8 rs)) = (eyeWC (bHk h8) (bWarps h8 ws) (bDraw ds (lI (bWarps h8 ws)).toNat) (bHk h8) (bRows h8 rs)) ∧ (List.isEmpty (eyeWC (bHk h8) (bWarps h8 ws) (bDraw ds (lI (bWarps h8 ws)).toNat) (bHk h8) (bRows h8 rs))) = (List.isEmpty (eyeWC (bHk h8) (bWarps h8 ws) (bDraw ds (lI (bWarps h8 ws)).toNat) (bHk h8) (bRows h8 rs)))) ∧ ((weaveC (bHk h8) (bWarps h8 ws) (bHk h8) (bRows h8 rs)) = (weaveC (bHk h8) (bWarps h8 ws) (bHk h8) (bRows h8 rs)) ∧ (List.isEmpty (weaveC (bHk h8) (bWarps h8 ws) (bHk h8) (bRows h8 rs))) = (List.isEmpty (weaveC (bHk h8) (bWarps h8 ws) (bHk h8) (bRows h8 rs)))) ∧ (e7 = e10.1) ∧ True)) ∧
       LoopP (fun (d10 : Int) (q10 : (Int) → Prop) =>
        ∀ (y193 : Bool), y193 = (decide (d10 < (lI (bWarps h8 ws)))) → (y193 = true →
         ∀ (y194 : Bool), y194 = (gq.aget (.i .i64) e10.1 d10 false) → ∀ (y195 : Bool), y195 = (!y194) → (y195 = true → 0 ≤ e10.2) ∧ (y195 = true → e10.2 < (List.length (eyeWC (bHk h8) (bWarps h8 ws) (bDraw ds (lI (bWarps h8 ws)).toNat) (bHk h8) (bRows h8 rs)))) ∧ ∀ (y196 : List UInt8), y196 = (gD (eyeWC (bHk h8) (bWarps h8 ws) (bDraw ds (lI (bWarps h8 ws)).toNat) (bHk h8) (bRows h8 rs)) e10.2 []) → (y195 = true → 0 ≤ d10) ∧ (y195 = true → d10 < (List.length y196)) ∧ ∀ (y197 : Int), y197 = ((UInt8.toNat (gD y196 d10 0) : Nat) : Int) → (y195 = true → 0 ≤ e10.2) ∧ (y195 = true → e10.2 < (List.length (weaveC (bHk h8) (bWarps h8 ws) (bHk h8) (bRows h8 rs)))) ∧ ∀ (y198 : List UInt8), y198 = (gD (weaveC (bHk h8) (bWarps h8 ws) (bHk h8) (bRows h8 rs)) e10.2 []) → (y195 = true → 0 ≤ d10) ∧ (y195 = true → d10 < (List.length y198)) ∧ ∀ (y199 : Int), y199 = ((UInt8.toNat (gD y198 d10 0) : Nat) : Int) → ∀ (y200 : Bool), y200 = (y197 != y199) → ∀ (y201 : Bool), y201 = (y195 && y200) → (y201 = false → 0 ≤ d10) ∧ (y201 = false → d10 < (List.length (bDraw ds (lI (bWarps h8 ws)).toNat))) ∧ ∀ (y202 : Int), y202 = (gD (bDraw ds (lI (bWarps h8 ws)).toNat) d10 0) → ∀ (y203 : Bool), y203 = (decide (y202 < (0 : Int))) → (y201 = false → y203 = true → 0 ≤ e10.2) ∧ (y201 = false → y203 = true → e10.2 < (List.length (eyeWC (bHk h8) (bWarps h8 ws) (bDraw ds (lI (bWarps h8 ws)).toNat) (bHk h8) (bRows h8 rs)))) ∧ ∀ (y204 : List UInt8), y204 = (gD (eyeWC (bHk h8) (bWarps h8 ws) (bDraw ds (lI (bWarps h8 ws)).toNat) (bHk h8) (bRows h8 rs)) e10.2 []) → (y201 = false → y203 = true → 0 ≤ d10) ∧ (y201 = false → y203 = true → d10 < (List.length y204)) ∧ ∀ (y205 : Int), y205 = ((UInt8.toNat (gD y204 d10 0) : Nat) : Int) → ∀ (y206 : Bool), y206 = (y205 != (46 : Int)) → ∀ (y207 : Bool), y207 = (y203 && y206) → ∀ (y208 : Bool), y208 = (y201 || y207) → (y208 = true →
          (false = true ∧ (True))) ∧
         (y208 = false →
          (I64 (d10 + (1 : Int))) ∧ (∃ d11 : Int, ((wh = wh ∧ True ∧ (lI (bWarps h8 ws)) = (lI (bWarps h8 ws)) ∧ True ∧ True ∧ True ∧ True ∧ e10.2 = e10.2 ∧ (d10 + (1 : Int)) = d11 ∧ True) ∧ (((bHk h8) = (bHk h8) ∧ True ∧ (([] : List SV) = [])) ∧ ((bWarps h8 ws) = (bWarps h8 ws) ∧ false = false) ∧ ((bDraw ds (lI (bWarps h8 ws)).toNat) = (bDraw ds (lI (bWarps h8 ws)).toNat) ∧ false = false) ∧ ((eyeWC (bHk h8) (bWarps h8 ws) (bDraw ds (lI (bWarps h8 ws)).toNat) (bHk h8) (bRows h8 rs)) = (eyeWC (bHk h8) (bWarps h8 ws) (bDraw ds (lI (bWarps h8 ws)).toNat) (bHk h8) (bRows h8 rs)) ∧ (List.isEmpty (eyeWC (bHk h8) (bWarps h8 ws) (bDraw ds (lI (bWarps h8 ws)).toNat) (bHk h8) (bRows h8 rs))) = (List.isEmpty (eyeWC (bHk h8) (bWarps h8 ws) (bDraw ds (lI (bWarps h8 ws)).toNat) (bHk h8) (bRows h8 rs)))) ∧ ((weaveC (bHk h8) (bWarps h8 ws) (bHk h8) (bRows h8 rs)) = (weaveC (bHk h8) (bWarps h8 ws) (bHk h8) (bRows h8 rs)) ∧ (List.isEmpty (weaveC (bHk h8) (bWarps h8 ws) (bHk h8) (bRows h8 rs))) = (List.isEmpty (weaveC (bHk h8) (bWarps h8 ws) (bHk h8) (bRows h8 rs)))) ∧ (e10.1 = e10.1) ∧ True)) ∧ q10 d11))) ∧
        (y193 = false →
         (I64 (e10.2 + (1 : Int))) ∧ (∃ d12 : Int, ((wh = wh ∧ True ∧ (lI (bWarps h8 ws)) = (lI (bWarps h8 ws)) ∧ True ∧ True ∧ True ∧ True ∧ (e10.2 + (1 : Int)) = d12 ∧ True) ∧ (((bHk h8) = (bHk h8) ∧ True ∧ (([] : List SV) = [])) ∧ ((bWarps h8 ws) = (bWarps h8 ws) ∧ false = false) ∧ ((bDraw ds (lI (bWarps h8 ws)).toNat) = (bDraw ds (lI (bWarps h8 ws)).toNat) ∧ false = false) ∧ ((eyeWC (bHk h8) (bWarps h8 ws) (bDraw ds (lI (bWarps h8 ws)).toNat) (bHk h8) (bRows h8 rs)) = (eyeWC (bHk h8) (bWarps h8 ws) (bDraw ds (lI (bWarps h8 ws)).toNat) (bHk h8) (bRows h8 rs)) ∧ (List.isEmpty (eyeWC (bHk h8) (bWarps h8 ws) (bDraw ds (lI (bWarps h8 ws)).toNat) (bHk h8) (bRows h8 rs))) = (List.isEmpty (eyeWC (bHk h8) (bWarps h8 ws) (bDraw ds (lI (bWarps h8 ws)).toNat) (bHk h8) (bRows h8 rs)))) ∧ ((weaveC (bHk h8) (bWarps h8 ws) (bHk h8) (bRows h8 rs)) = (weaveC (bHk h8) (bWarps h8 ws) (bHk h8) (bRows h8 rs)) ∧ (List.isEmpty (weaveC (bHk h8) (bWarps h8 ws) (bHk h8) (bRows h8 rs))) = (List.isEmpty (weaveC (bHk h8) (bWarps h8 ws) (bHk h8) (bRows h8 rs)))) ∧ (e10.1 = e7) ∧ True)) ∧ q7 d12))) d100)) ∧
     (y155 = false →
      (I64 wh) ∧ ((lI (bWarps h8 ws)) ≠ 0) ∧ ∀ (y209 : Int), y209 = (Int.tmod wh (lI (bWarps h8 ws))) → ((bWarps h8 ws).length ≤ 110) ∧ (false = true → (bWarps h8 ws) = []) ∧ ((bDraw ds (lI (bWarps h8 ws)).toNat).length ≤ 110) ∧ (false = true → (bDraw ds (lI (bWarps h8 ws)).toNat) = []) ∧ (0 ≤ y209) ∧ (y209 < (List.length (bWarps h8 ws))) ∧ ∀ (y210 : Int), y210 = (gD (bWarps h8 ws) y209 0) → (InK .u64 y210) ∧ (0 ≤ y210) ∧ (I64 (shlI .i64 (1 : Int) y210)) ∧ ∀ (y211 : Int), y211 = (shlI .i64 (1 : Int) y210) → ((wh = wh ∧ True ∧ True ∧ True ∧ (lI (bWarps h8 ws)) = (lI (bWarps h8 ws)) ∧ True ∧ y209 = y209 ∧ True ∧ True ∧ ((bHk h8) = (bHk h8) ∧ True ∧ (([] : List SV) = [])) ∧ True ∧ ((bHk h8) = (bHk h8) ∧ True ∧ (([] : List SV) = [])) ∧ True) ∧ (((bHk h8) = (bHk h8) ∧ True ∧ (([] : List SV) = [])) ∧ ((bWarps h8 ws) = (bWarps h8 ws) ∧ false = false) ∧ ((bDraw ds (lI (bWarps h8 ws)).toNat) = (bDraw ds (lI (bWarps h8 ws)).toNat) ∧ false = false) ∧ ((eyeWC (bHk h8) (bWarps h8 ws) (bDraw ds (lI (bWarps h8 ws)).toNat) (bHk h8) (bRows h8 rs)) = (eyeWC (bHk h8) (bWarps h8 ws) (bDraw ds (lI (bWarps h8 ws)).toNat) (bHk h8) (bRows h8 rs)) ∧ (List.isEmpty (eyeWC (bHk h8) (bWarps h8 ws) (bDraw ds (lI (bWarps h8 ws)).toNat) (bHk h8) (bRows h8 rs))) = (List.isEmpty (eyeWC (bHk h8) (bWarps h8 ws) (bDraw ds (lI (bWarps h8 ws)).toNat) (bHk h8) (bRows h8 rs)))) ∧ ((weaveC (bHk h8) (bWarps h8 ws) (bHk h8) (bRows h8 rs)) = (weaveC (bHk h8) (bWarps h8 ws) (bHk h8) (bRows h8 rs)) ∧ (List.isEmpty (weaveC (bHk h8) (bWarps h8 ws) (bHk h8) (bRows h8 rs))) = (List.isEmpty (weaveC (bHk h8) (bWarps h8 ws) (bHk h8) (bRows h8 rs)))) ∧ (e7 = e7) ∧ ((bWarps h8 ws) = (bWarps h8 ws) ∧ false = false) ∧ ((bDraw ds (lI (bWarps h8 ws)).toNat) = (bDraw ds (lI (bWarps h8 ws)).toNat) ∧ false = false) ∧ ([y211] = [y211] ∧ false = false) ∧ True)) ∧ (((bWarps h8 ws).length ≤ 110) ∧ (false = true → (bWarps h8 ws) = []) ∧ (0 ≤ y209) ∧ (y209 < (List.length (bWarps h8 ws))) ∧ ∀ (y212 : Int), y212 = (gD (bWarps h8 ws) y209 0) → (InK .u64 y212) ∧ (0 ≤ y212) ∧ (I64 (shlI .i64 (1 : Int) y212)) ∧ ∀ (y213 : Int), y213 = (shlI .i64 (1 : Int) y212) → ((bDraw ds (lI (bWarps h8 ws)).toNat).length ≤ 110) ∧ (false = true → (bDraw ds (lI (bWarps h8 ws)).toNat) = []) ∧ ((wh = wh ∧ True ∧ True ∧ True ∧ (lI (bWarps h8 ws)) = (lI (bWarps h8 ws)) ∧ True ∧ y209 = y209 ∧ True ∧ True ∧ ((bHk h8) = (bHk h8) ∧ True ∧ (([] : List SV) = [])) ∧ True ∧ ((bHk h8) = (bHk h8) ∧ True ∧ (([] : List SV) = [])) ∧ True) ∧ (((bHk h8) = (bHk h8) ∧ True ∧ (([] : List SV) = [])) ∧ ((bWarps h8 ws) = (bWarps h8 ws) ∧ false = false) ∧ ((bDraw ds (lI (bWarps h8 ws)).toNat) = (bDraw ds (lI (bWarps h8 ws)).toNat) ∧ false = false) ∧ ((eyeWC (bHk h8) (bWarps h8 ws) (bDraw ds (lI (bWarps h8 ws)).toNat) (bHk h8) (bRows h8 rs)) = (eyeWC (bHk h8) (bWarps h8 ws) (bDraw ds (lI (bWarps h8 ws)).toNat) (bHk h8) (bRows h8 rs)) ∧ (List.isEmpty (eyeWC (bHk h8) (bWarps h8 ws) (bDraw ds (lI (bWarps h8 ws)).toNat) (bHk h8) (bRows h8 rs))) = (List.isEmpty (eyeWC (bHk h8) (bWarps h8 ws) (bDraw ds (lI (bWarps h8 ws)).toNat) (bHk h8) (bRows h8 rs)))) ∧ ((weaveC (bHk h8) (bWarps h8 ws) (bHk h8) (bRows h8 rs)) = (weaveC (bHk h8) (bWarps h8 ws) (bHk h8) (bRows h8 rs)) ∧ (List.isEmpty (weaveC (bHk h8) (bWarps h8 ws) (bHk h8) (bRows h8 rs))) = (List.isEmpty (weaveC (bHk h8) (bWarps h8 ws) (bHk h8) (bRows h8 rs)))) ∧ (e7 = e7) ∧ ((bWarps h8 ws) = (bWarps h8 ws) ∧ false = false) ∧ ((bDraw ds (lI (bWarps h8 ws)).toNat) = (bDraw ds (lI (bWarps h8 ws)).toNat) ∧ false = false) ∧ ([y213] = [y211] ∧ false = false) ∧ True))) ∧ ((0 ≤ y209) ∧ (y209 < (List.length (bWarps h8 ws))) ∧ ∀ (y214 : Int), y214 = (gD (bWarps h8 ws) y209 0) → (InK .u64 y214) ∧ (0 ≤ y214) ∧ (I64 (shlI .i64 (1 : Int) y214)) ∧ ∀ (y215 : Int), y215 = (shlI .i64 (1 : Int) y214) → ((bWarps h8 ws).length ≤ 110) ∧ (false = true → (bWarps h8 ws) = []) ∧ ((bDraw ds (lI (bWarps h8 ws)).toNat).length ≤ 110) ∧ (false = true → (bDraw ds (lI (bWarps h8 ws)).toNat) = []) ∧ ((wh = wh ∧ True ∧ True ∧ True ∧ (lI (bWarps h8 ws)) = (lI (bWarps h8 ws)) ∧ True ∧ y209 = y209 ∧ True ∧ True ∧ ((bHk h8) = (bHk h8) ∧ True ∧ (([] : List SV) = [])) ∧ True ∧ ((bHk h8) = (bHk h8) ∧ True ∧ (([] : List SV) = [])) ∧ True) ∧ (((bHk h8) = (bHk h8) ∧ True ∧ (([] : List SV) = [])) ∧ ((bWarps h8 ws) = (bWarps h8 ws) ∧ false = false) ∧ ((bDraw ds (lI (bWarps h8 ws)).toNat) = (bDraw ds (lI (bWarps h8 ws)).toNat) ∧ false = false) ∧ ((eyeWC (bHk h8) (bWarps h8 ws) (bDraw ds (lI (bWarps h8 ws)).toNat) (bHk h8) (bRows h8 rs)) = (eyeWC (bHk h8) (bWarps h8 ws) (bDraw ds (lI (bWarps h8 ws)).toNat) (bHk h8) (bRows h8 rs)) ∧ (List.isEmpty (eyeWC (bHk h8) (bWarps h8 ws) (bDraw ds (lI (bWarps h8 ws)).toNat) (bHk h8) (bRows h8 rs))) = (List.isEmpty (eyeWC (bHk h8) (bWarps h8 ws) (bDraw ds (lI (bWarps h8 ws)).toNat) (bHk h8) (bRows h8 rs)))) ∧ ((weaveC (bHk h8) (bWarps h8 ws) (bHk h8) (bRows h8 rs)) = (weaveC (bHk h8) (bWarps h8 ws) (bHk h8) (bRows h8 rs)) ∧ (List.isEmpty (weaveC (bHk h8) (bWarps h8 ws) (bHk h8) (bRows h8 rs))) = (List.isEmpty (weaveC (bHk h8) (bWarps h8 ws) (bHk h8) (bRows h8 rs)))) ∧ (e7 = e7) ∧ ((bWarps h8 ws) = (bWarps h8 ws) ∧ false = false) ∧ ((bDraw ds (lI (bWarps h8 ws)).toNat) = (bDraw ds (lI (bWarps h8 ws)).toNat) ∧ false = false) ∧ ([y215] = [y211] ∧ false = false) ∧ True))) ∧ ((bWarps h8 ws).length ≤ 110 ∧ (bDraw ds (lI (bWarps h8 ws)).toNat).length ≤ 110 ∧ [y211].length ≤ 110) ∧ ∀ (y216 : Bool), y216 = (eyeWErr (bHk h8) (bWarps h8 ws) (bDraw ds (lI (bWarps h8 ws)).toNat) (bHk h8) [y211] == (0 : Int)) → ∀ (y217 : Bool), y217 = ((lI (eyeWC (bHk h8) (bWarps h8 ws) (bDraw ds (lI (bWarps h8 ws)).toNat) (bHk h8) [y211])) == (1 : Int)) → ∀ (y218 : Bool), y218 = (y216 && y217) → (y218 = true → 0 ≤ (0 : Int)) ∧ (y218 = true → (0 : Int) < (List.length (eyeWC (bHk h8) (bWarps h8 ws) (bDraw ds (lI (bWarps h8 ws)).toNat) (bHk h8) [y211]))) ∧ ∀ (y219 : List UInt8), y219 = (gD (eyeWC (bHk h8) (bWarps h8 ws) (bDraw ds (lI (bWarps h8 ws)).toNat) (bHk h8) [y211]) (0 : Int) []) → ∀ (y220 : Bool), y220 = ((lI y219) == (lI (bWarps h8 ws))) → ∀ (y221 : Bool), y221 = (y218 && y220) → (y221 = true → 0 ≤ (0 : Int)) ∧ (y221 = true → (0 : Int) < (List.length (eyeWC (bHk h8) (bWarps h8 ws) (bDraw ds (lI (bWarps h8 ws)).toNat) (bHk h8) [y211]))) ∧ ∀ (y222 : List UInt8), y222 = (gD (eyeWC (bHk h8) (bWarps h8 ws) (bDraw ds (lI (bWarps h8 ws)).toNat) (bHk h8) [y211]) (0 : Int) []) → (y221 = true → 0 ≤ y209) ∧ (y221 = true → y209 < (List.length y222)) ∧ ∀ (y223 : Int), y223 = ((UInt8.toNat (gD y222 y209 0) : Nat) : Int) → ∀ (y224 : Bool), y224 = (y223 == (120 : Int)) → ∀ (y225 : Bool), y225 = (gq.aget (.i .i64) e7 y209 false) → ∀ (y226 : Bool), y226 = (!y225) → ∀ (y227 : Bool), y227 = (y224 == y226) → ∀ (y228 : Bool), y228 = (y221 && y227) → (y228 = true → True) ∧ ∀ (y229 : Bool), y229 = (y228 && true) → (y229 = true ∧ (True)))) d70)) d30)
def cx_law11_EyeTells : Cx := ⟨[(3, (.i .i64)), (1000075, (.pair (.i .i64) .bo))], [(31, s_law11_Board_harness), (32, s_law11_Board_design), (33, s_law11_Board_drawing), (13, s_law11_own), (14, s_law11_ints), (37, s_eye_Wrong), (35, s_law11_ours), (34, s_eye_Weave), (36, s_tie_Weave), (12, s_law11_known)], 232, [], 0, [], [], [], [1, 2, 5, 6, 7, 15, 19, 23, 25, 184, 186, 197], true⟩
def lp_law11_EyeTells (h8 : Int) (ws : List Int) (rs : List Int) (ds : List Int) (wh : Int) : List (Nat × LoopAnn) := [(0, ⟨Unit, (List (Int × Bool)) × Int, [1, 5, 7, 8, 9, 11, 13, 15, 16], fun e x => [.val (.i .u8) wh, .box 5 0, .val (.i .i64) (((List.length (bWarps h8 ws)) : Nat) : Int), .lst 31, .lst 37, .lst 47, .lst 55, .map 75, .val (.i .i64) x.2], fun e x => [(5, .slot 5, .cells [.val (.i .i64) (bHk h8), .lst 23] (some 24)), (23, .cell 5 1, .lst 3 (.i .i64) (bWarps h8 ws) false), (31, .slot 8, .lst 3 (.i .i64) (bDraw ds (((List.length (bWarps h8 ws)) : Nat) : Int).toNat) false), (37, .slot 9, .lst 3 (.i .i64) (wrongW (bHk h8) (bWarps h8 ws) (bDraw ds (((List.length (bWarps h8 ws)) : Nat) : Int).toNat)) (List.isEmpty (wrongW (bHk h8) (bWarps h8 ws) (bDraw ds (((List.length (bWarps h8 ws)) : Nat) : Int).toNat)))), (47, .slot 11, .lst 9 .st (eyeWC (bHk h8) (bWarps h8 ws) (bDraw ds (((List.length (bWarps h8 ws)) : Nat) : Int).toNat) (bHk h8) (bRows h8 rs)) (List.isEmpty (eyeWC (bHk h8) (bWarps h8 ws) (bDraw ds (((List.length (bWarps h8 ws)) : Nat) : Int).toNat) (bHk h8) (bRows h8 rs)))), (55, .slot 13, .lst 9 .st (weaveC (bHk h8) (bWarps h8 ws) (bHk h8) (bRows h8 rs)) (List.isEmpty (weaveC (bHk h8) (bWarps h8 ws) (bHk h8) (bRows h8 rs)))), (75, .slot 15, .map (.i .i64) .bo x.1)]⟩),
 (2, ⟨(List (Int × Bool)), Int, [1, 5, 7, 8, 11, 13, 15, 17], fun e x => [.val (.i .u8) wh, .box 5 0, .val (.i .i64) (((List.length (bWarps h8 ws)) : Nat) : Int), .lst 31, .lst 47, .lst 55, .map 75, .val (.i .i64) x], fun e x => [(5, .slot 5, .cells [.val (.i .i64) (bHk h8), .lst 23] (some 24)), (23, .cell 5 1, .lst 3 (.i .i64) (bWarps h8 ws) false), (31, .slot 8, .lst 3 (.i .i64) (bDraw ds (((List.length (bWarps h8 ws)) : Nat) : Int).toNat) false), (47, .slot 11, .lst 9 .st (eyeWC (bHk h8) (bWarps h8 ws) (bDraw ds (((List.length (bWarps h8 ws)) : Nat) : Int).toNat) (bHk h8) (bRows h8 rs)) (List.isEmpty (eyeWC (bHk h8) (bWarps h8 ws) (bDraw ds (((List.length (bWarps h8 ws)) : Nat) : Int).toNat) (bHk h8) (bRows h8 rs)))), (55, .slot 13, .lst 9 .st (weaveC (bHk h8) (bWarps h8 ws) (bHk h8) (bRows h8 rs)) (List.isEmpty (weaveC (bHk h8) (bWarps h8 ws) (bHk h8) (bRows h8 rs)))), (75, .slot 15, .map (.i .i64) .bo e)]⟩),
 (4, ⟨(List (Int × Bool)) × Int, Int, [1, 5, 7, 8, 11, 13, 15, 17, 18], fun e x => [.val (.i .u8) wh, .box 5 0, .val (.i .i64) (((List.length (bWarps h8 ws)) : Nat) : Int), .lst 31, .lst 47, .lst 55, .map 75, .val (.i .i64) e.2, .val (.i .i64) x], fun e x => [(5, .slot 5, .cells [.val (.i .i64) (bHk h8), .lst 23] (some 24)), (23, .cell 5 1, .lst 3 (.i .i64) (bWarps h8 ws) false), (31, .slot 8, .lst 3 (.i .i64) (bDraw ds (((List.length (bWarps h8 ws)) : Nat) : Int).toNat) false), (47, .slot 11, .lst 9 .st (eyeWC (bHk h8) (bWarps h8 ws) (bDraw ds (((List.length (bWarps h8 ws)) : Nat) : Int).toNat) (bHk h8) (bRows h8 rs)) (List.isEmpty (eyeWC (bHk h8) (bWarps h8 ws) (bDraw ds (((List.length (bWarps h8 ws)) : Nat) : Int).toNat) (bHk h8) (bRows h8 rs)))), (55, .slot 13, .lst 9 .st (weaveC (bHk h8) (bWarps h8 ws) (bHk h8) (bRows h8 rs)) (List.isEmpty (weaveC (bHk h8) (bWarps h8 ws) (bHk h8) (bRows h8 rs)))), (75, .slot 15, .map (.i .i64) .bo e.1)]⟩)]
set_option maxRecDepth 100000 in
theorem vq_law11_EyeTells (d : (Int × List Int × List Int × List Int) × Int) : gwp (cx_law11_EyeTells) (lp_law11_EyeTells d.1.1 d.1.2.1 d.1.2.2.1 d.1.2.2.2 d.2) c7 0 (gend [.tmp 4] (res_law11_EyeTells d) (obs_law11_EyeTells d)) (gstart 232 (AL.can al_law11_EyeTells d)) = vc_law11_EyeTells d.1.1 d.1.2.1 d.1.2.2.1 d.1.2.2.2 d.2 := by kernel_rfl
abbrev Ok_law11_EyeTells : Prop := OkC Tryd.prog 7 s_law11_EyeTells
theorem mk_law11_EyeTells (h : ∀ (h8 : Int) (ws : List Int) (rs : List Int) (ds : List Int) (wh : Int), (bOk h8 ws rs ds ∧ 0 ≤ wh ∧ wh ≤ 255) → vc_law11_EyeTells h8 ws rs ds wh) : OkC Tryd.prog 7 s_law11_EyeTells :=
 okC_vc fun7 mixed (C := cx_law11_EyeTells) (V := fun (d : (Int × List Int × List Int × List Int) × Int) => vc_law11_EyeTells d.1.1 d.1.2.1 d.1.2.2.1 d.1.2.2.2 d.2) ⟨(.cons ok_law11_Board_harness (.cons ok_law11_Board_design (.cons ok_law11_Board_drawing (.cons ok_law11_own (.cons ok_law11_ints (.cons ok_eye_Wrong (.cons ok_law11_ours (.cons ok_eye_Weave (.cons ok_tie_Weave (.cons ok_law11_known .nil)))))))))), XsOk.nil, ItsOk.nil⟩ (vq_law11_EyeTells) fun d hp => h d.1.1 d.1.2.1 d.1.2.2.1 d.1.2.2.2 d.2 hp
end Go.Proofs.Tryd
set_option linter.unusedVariables false
namespace Go.Proofs.Tryd
open Go Go.V Go.Proofs
theorem bDraw_val {ds : List Int} {n : Nat} (hd : u8s ds) (hn : 1 ≤ n) : ∀ x ∈ bDraw ds n, -1 ≤ x ∧ x < n := fun x hx => by
 obtain ⟨k, hk, rfl⟩ := List.mem_iff_getElem.1 hx
 have hk' : k < n := by rw [bDraw_len] at hk; exact hk
 rw [bDraw_get ds hk']
 split
 ·rename_i hkd
  have hd' := hd _ (List.getElem_mem hkd)
  rw [getD_nat hkd]
  split
  ·omega
  ·split
   ·have h1 := Int.tmod_nonneg (n : Int) hd'.1
    have h2 := Int.tmod_lt_of_pos ds[k] (show (0 : Int) < n by omega)
    omega
   ·omega
 ·omega
theorem bWarps_len {h8 : Int} {ws : List Int} : 1 ≤ (bWarps h8 ws).length ∧ (bWarps h8 ws).length ≤ 24 := by
 have : (bWarps h8 ws).length = if ws = [] then 1 else min 24 ws.length := warpsN_len
 rw [this]
 split
 ·omega
 ·rename_i h
  have := List.length_pos_iff.2 h
  omega
end Go.Proofs.Tryd
set_option linter.unusedVariables false
namespace Go.Proofs.Tryd
open Go Go.V Go.Proofs
theorem ok_law11_EyeTells : Ok_law11_EyeTells := mk_law11_EyeTells fun h8 ws rs ds wh hb => by
 obtain ⟨hb, hw0, hw1⟩ := hb
 have hbt : bOk h8 ws rs ds = True := eq_true hb
 unfold vc_law11_EyeTells
 (try delta lI gD sT I64)
 rw [hbt]
 have hn := bWarps_len (h8 := h8) (ws := ws)
 obtain ⟨b1, b2, b3, b4, b5⟩ := board_facts hb
 have hlen := bDraw_len ds (bWarps h8 ws).length
 have hval := bDraw_val (n := (bWarps h8 ws).length) hb.2.2.2.2 hn.1
 have R := tells_loom b1 b2 b3 b4 b5 hn.1 hn.2 hlen hval
 clear hbt b1 b2 b3 b4 b5 hlen hval hn
 have hl : bDraw ds (((bWarps h8 ws).length : Nat) : Int).toNat = bDraw ds (bWarps h8 ws).length := rfl
 generalize bDraw ds (((bWarps h8 ws).length : Nat) : Int).toNat = l at *
 subst hl
 generalize bDraw ds (bWarps h8 ws).length = l at *
 generalize bWarps h8 ws = lw at *
 generalize bRows h8 rs = rows at *
 generalize bHk h8 = hk at *
 generalize wrongI lw l = W at *
 generalize rows.map (fun r => drawC l (pickS lw r)) = EC at *
 generalize rows.map (pickS lw) = WC at *
 obtain ⟨n1, n24, r8, h10, len, val, lwv, ee, eC, eW, wE, wW, wr, lE, lW, lE1, lW1, same, loose, f6, f7, f1, one⟩ := R
 have k1 : (((EC.length : Nat) : Int) != ((WC.length : Nat) : Int)) = false := by rw [bne_eq_false_iff_eq]; omega
 simp only [InK_i64, ee, eC, eW, wE, wW, wr, k1, true_and, and_true, exists_eq_left', exists_const, decide_eq_true_eq, decide_eq_false_iff_not, ne_eq, bne_eq_false_iff_eq, Bool.not_eq_true', gt_iff_lt, ge_iff_le, forall_eq, false_implies, Bool.false_eq_true, Bool.or_false, Bool.and_true, implies_true, forall_const, false_implies, and_self, bne_self_eq_false]
 have ag : ∀ (F : List Int) (k : Int), gq.aget (.i .i64) (List.map (α := Int) (β := Int × Bool) (fun x => (x, true)) F) k false = decide (k ∈ F) := fun F k => aget_map
 refine ⟨⟨by omega, by omega⟩, by omega, by omega, ⟨by omega, by omega⟩, by omega, by omega, by omega, ⟨by omega, by omega, by omega⟩, by omega, by omega, ⟨by omega, by omega⟩, ([], 0), (by and_intros <;> first | rfl | trivial), ?_⟩
 refine ⟨fun d => ∃ i : Nat, i ≤ W.length ∧ d.2 = i ∧ d.1 = (W.take i).map fun x => (x, true), fun d => W.length - d.2.toNat, ⟨0, Nat.zero_le _, rfl, rfl⟩, ?_⟩
 rintro ⟨m, _⟩ ⟨i, hi, rfl, hm⟩
 dsimp only at hm ⊢
 refine ⟨fun hlt => ?_, fun hge => ?_⟩
 ·have hlt : i < W.length := by omega
  have hw := f7 _ (List.getElem_mem hlt)
  have c1 : (W[i] < 0) = False := eq_false (by omega)
  have c2 : ((lw.length : Int) ≤ W[i]) = False := eq_false (by omega)
  have c4 : (decide (0 < (i : Int)) && decide (W[i] ≤ W.getD ((i : Int) - 1).toNat 0)) = false := and_dec fun hp => by
   have e : ((i : Int) - 1).toNat = i - 1 := by omega
   rw [e, getD_nat (show i - 1 < W.length by omega)]
   have := List.pairwise_iff_getElem.1 f6 (i - 1) i (by omega) hlt (by omega)
   omega
  have hnin : W[i] ∉ W.take i := fun h => by
   obtain ⟨k, hk, hk2⟩ := List.mem_take_iff_getElem.1 h
   have := List.pairwise_iff_getElem.1 f6 k i (by omega) hlt (by omega)
   omega
  simp only [Int.toNat_natCast, getD_nat hlt, c1, c2, c4, true_and, Int.toNat_natCast, Int.ofNat_lt, false_implies, Bool.false_eq_true, Bool.or_self, forall_const, decide_false, not_false_eq_true]
  and_intros
  all_goals try (first | omega | (intros; omega))
  refine ⟨(aput (.i .i64) m W[i] true, (i : Int) + 1), ⟨rfl, rfl⟩, ⟨i + 1, by omega, by simp, ?_⟩, by dsimp only; omega⟩
  dsimp only
  rw [hm, aput_new hnin, take_succ_eq hlt]
 have hi : i = W.length := by omega
 subst hi
 rw [List.take_length] at hm
 subst hm
 refine ⟨W.map fun x => (x, true), 0, (by and_intros <;> first | rfl | trivial), ?_⟩
 refine LoopP.count EC.length (fun _ => True) trivial fun p hp _ q hq => ?_
 refine ⟨fun hlt => ?_, fun hge => ?_⟩
 ·have hlt : p < EC.length := by omega
  have r1 := lE1 p (by omega)
  have r2 := lW1 p (by omega)
  simp only [Int.toNat_natCast, r1, r2, true_and, Int.toNat_natCast, Int.ofNat_lt, false_implies, Bool.false_eq_true, Bool.or_self, forall_const, bne_self_eq_false, Bool.or_self]
  and_intros
  all_goals try (first | omega | (intros; omega))
  refine ⟨(W.map fun x => (x, true), (p : Int)), 0, (by and_intros <;> first | rfl | trivial), ?_⟩
  refine LoopP.count lw.length (fun _ => True) trivial fun i hi _ q2 hq2 => ?_
  dsimp only
  refine ⟨fun hil => ?_, fun hig => ?_⟩
  ·have hil : i < lw.length := by omega
   have s1 : (!decide ((i : Int) ∈ W) && ((((EC.getD p []).getD i 0).toNat : Nat) : Int) != ((((WC.getD p []).getD i 0).toNat : Nat) : Int)) = false := by
    by_cases h : (i : Int) ∈ W
    ·simp [h]
    ·rw [same p i (by omega) hil h]; simp
   have s2 : (decide (l.getD i 0 < 0) && ((((EC.getD p []).getD i 0).toNat : Nat) : Int) != 46) = false := by
    by_cases h : l.getD i 0 < 0
    ·rw [loose p i (by omega) hil h]; simp
    ·rw [decide_eq_false h]; rfl
   simp only [Int.toNat_natCast, ag, s1, s2, r1, r2, true_and, decide_eq_false_iff_not, Int.toNat_natCast, Int.ofNat_lt, false_implies, Bool.false_eq_true, Bool.or_self, forall_const, Bool.or_self]
   and_intros
   all_goals try (first | omega | (intros; omega))
   exact hq2 (by omega) trivial
  ·exact ⟨by omega, (p : Int) + 1, ⟨rfl, rfl⟩, hq hlt trivial⟩
 clear hge hq
 have t1 := Int.tmod_nonneg (lw.length : Int) hw0
 have t2 := Int.tmod_lt_of_pos wh (show (0 : Int) < (lw.length : Int) by omega)
 obtain ⟨k, hk'⟩ := Int.eq_ofNat_of_zero_le t1
 rw [hk'] at t2
 have hkl : k < lw.length := by omega
 obtain ⟨o1, c, o2, o3, o4⟩ := one k hkl
 have hv := lwv _ (List.getElem_mem hkl)
 rw [← getD_nat (d := 0) hkl] at hv
 have hs := shl_one hv.1 (show lw.getD k 0 ≤ 62 by omega)
 have hpw : (0 : Int) ≤ 2 ^ (lw.getD k 0).toNat ∧ (2 : Int) ^ (lw.getD k 0).toNat ≤ 1024 := by
  have : (2 : Nat) ^ (lw.getD k 0).toNat ≤ 2 ^ 10 := Nat.pow_le_pow_right (by omega) (by omega)
  have e1 : ((2 : Int) ^ (lw.getD k 0).toNat) = ((2 ^ (lw.getD k 0).toNat : Nat) : Int) := by rw [Int.natCast_pow]; rfl
  rw [e1]
  exact ⟨Int.natCast_nonneg _, Int.ofNat_le.2 this⟩
 have e2 : [c].getD (Int.toNat 0) [] = c := rfl
 have e3 : (((1 : Nat) : Int) == 1) = true := rfl
 simp only [hk', Int.toNat_natCast, hs, o1, o2, e2, o3, o4, ag, InK_u64, List.length_singleton, e3, beq_self_eq_true, Bool.and_self, and_true, Int.toNat_natCast, Int.ofNat_lt, Bool.and_self, forall_const]
 generalize (2 : Int) ^ (lw.getD k 0).toNat = pw at *
 and_intros
 all_goals try (first | omega | rfl | (intros; omega))
end Go.Proofs.Tryd
set_option linter.unusedVariables false
namespace Go.Proofs.Tryd
open Go Go.V Go.Proofs
structure FewI (l : List Int) (m : List (Int × Bool)) (tk : Int) (od : List Int) (i : Nat) : Prop where
 perm : od.Perm ((List.range l.length).map fun (w : Nat) => (w : Int))
 st : ∀ w : Int, gq.aget (.i .i64) m w false = true → w ∈ od.take i ∧ 0 ≤ l.getD w.toNat 0
 ap : ∀ v w : Int, gq.aget (.i .i64) m v false = true → gq.aget (.i .i64) m w false = true → v < w → l.getD v.toNat 0 < l.getD w.toNat 0
 cnt : tk = ((od.take i).filter fun (w : Int) => decide (0 ≤ l.getD w.toNat 0) && !gq.aget (.i .i64) m w false).length
theorem FewI.len {l : List Int} {m : List (Int × Bool)} {tk : Int} {od : List Int} {i : Nat} (h : FewI l m tk od i) : od.length = l.length := by rw [h.perm.length_eq]; simp
theorem FewI.mem {l : List Int} {m : List (Int × Bool)} {tk : Int} {od : List Int} {i : Nat} (h : FewI l m tk od i) {w : Int} (hw : w ∈ od) : 0 ≤ w ∧ w < l.length := by
 obtain ⟨k, hk, rfl⟩ := List.mem_map.1 (h.perm.mem_iff.1 hw)
 have := List.mem_range.1 hk
 omega
theorem FewI.fin {l : List Int} (hl : ∀ x ∈ l, -1 ≤ x ∧ x ≤ 95) {m : List (Int × Bool)} {tk : Int} {od : List Int} (h : FewI l m tk od l.length) : ((outW l).length : Int) ≤ tk := by
 have hlen := h.len
 have htake : od.take l.length = od := List.take_of_length_le (by omega)
 have hcnt := h.cnt
 rw [htake] at hcnt
 have T := tan_facts hl
 have hp := (h.perm.filter fun (w : Int) => decide (0 ≤ l.getD w.toNat 0) && !gq.aget (.i .i64) m w false).length_eq
 have hthr : refThr l = (thr l).map Prod.fst := refThr_eq fun x hx => (hl x hx).1
 have e1 : ((List.range l.length).map fun (w : Nat) => (w : Int)).filter (fun (w : Int) => decide (0 ≤ l.getD w.toNat 0) && !gq.aget (.i .i64) m w false) = (refThr l).filter fun (w : Int) => !gq.aget (.i .i64) m w false := by
  unfold refThr
  rw [List.filter_map, List.filter_map, List.filter_filter]
  congr 1
  refine List.filter_congr fun w hw => ?_
  simp only [Function.comp, Int.toNat_natCast]
  exact Bool.and_comm _ _
 rw [e1, hthr, List.filter_map, List.length_map] at hp
 have hst : ((thr l).filter fun p => gq.aget (.i .i64) m p.1 false).Pairwise fun x y => apartR x y = true := by
  refine List.Pairwise.imp_of_mem (fun {x y} hx hy hlt => ?_) ((thr_sorted l).sublist List.filter_sublist)
  obtain ⟨x1, x2⟩ := List.mem_filter.1 hx
  obtain ⟨y1, y2⟩ := List.mem_filter.1 hy
  have := h.ap x.1 y.1 x2 y2 hlt
  rw [(thr_eyes hl x1).2.2.1, (thr_eyes hl y1).2.2.1] at this
  exact decide_eq_true this
 have hb := best_le (R := apartR) (a := (-1, -1)) (List.filter_sublist (p := fun p : Int × Int => gq.aget (.i .i64) m p.1 false) (l := thr l)) (List.pairwise_cons.2 ⟨fun x hx => first_apart hl x (List.mem_filter.1 hx).1, hst⟩)
 have hsum : ∀ (q : Int × Int → Bool) (L : List (Int × Int)), (L.filter q).length + (L.filter fun p => !q p).length = L.length := fun q L => by
  induction L with
  | nil => rfl
  | cons a L ih => simp only [List.filter_cons]; cases q a <;> simp <;> omega
 have := hsum (fun p => gq.aget (.i .i64) m p.1 false) (thr l)
 have hol := T.outLen
 have e2 : ((thr l).filter ((fun (w : Int) => !gq.aget (.i .i64) m w false) ∘ Prod.fst)).length = ((thr l).filter fun p => !gq.aget (.i .i64) m p.1 false).length := rfl
 rw [e2] at hp
 omega
end Go.Proofs.Tryd
set_option linter.unusedVariables false
namespace Go.Proofs.Tryd
open Go Go.V Go.Proofs
theorem u8s_of {l : List Int} (h : KWf (.list (.i .u8)) l) : u8s l := fun x hx => (InK_u8 x).1 (h.2 x hx)
theorem u16s_of {l : List Int} (h : KWf (.list (.i .u16)) l) : u16s l := fun x hx => (InK_u16 x).1 (h.2 x hx)
theorem bOk_of {x : Int × List Int × List Int × List Int} (h : KWf (.pair (.i .u8) (.pair (.list (.i .u8)) (.pair (.list (.i .u16)) (.list (.i .u8))))) x) : bOk x.1 x.2.1 x.2.2.1 x.2.2.2 := by
 obtain ⟨h1, h2, h3, h4⟩ := h
 have h1 := (InK_u8 x.1).1 h1
 exact ⟨h1.1, h1.2, u8s_of h2, u16s_of h3, u8s_of h4⟩
theorem rightPre_of {x : (Int × List Int × List Int × List Int) × Int} (h : AWf [.pair (.i .u8) (.pair (.list (.i .u8)) (.pair (.list (.i .u16)) (.list (.i .u8)))), .i .u8] x) : bOk x.1.1 x.1.2.1 x.1.2.2.1 x.1.2.2.2 ∧ 0 ≤ x.2 ∧ x.2 ≤ 255 := by
 obtain ⟨h1, h3⟩ := h
 have h3 := (InK_u8 x.2).1 h3
 exact ⟨bOk_of h1, h3.1, h3.2⟩
end Go.Proofs.Tryd