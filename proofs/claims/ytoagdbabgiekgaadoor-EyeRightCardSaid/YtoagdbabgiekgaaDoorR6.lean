/- A framework for walks, contracts of functions, and their proofs: part 6. -/
import Derived.Test.YtoagdbabgiekgaaDoorR5
set_option linter.unusedVariables false
namespace Go.Proofs.Tryd
open Go Go.V Go.Proofs
def al_tie_Weave : AL ((Int × List Int) × Int × List Int) := (.cons (.agg (.cons (.k (.i .i64)) (.one (.k (.list (.i .i64)))))) (.one (.agg (.cons (.k (.i .i64)) (.one (.k (.list (.i .i64))))))))
def pre_tie_Weave (d : (Int × List Int) × Int × List Int) : Prop := d.1.2.length ≤ 110 ∧ d.2.2.length ≤ 110
def res_tie_Weave (d : (Int × List Int) × Int × List Int) : SV := .tup [.lst 0, .val (.i .i64) (weaveErr d.1.1 d.1.2 d.2.1 d.2.2)]
def obs_tie_Weave (d : (Int × List Int) × Int × List Int) : List OB := [.lst 9 .st (weaveC d.1.1 d.1.2 d.2.1 d.2.2) ((weaveC d.1.1 d.1.2 d.2.1 d.2.2).isEmpty)]
def s_tie_Weave : CSp := mkSp al_tie_Weave pre_tie_Weave res_tie_Weave obs_tie_Weave
def vc_tie_Weave (hk : Int) (lw : List Int) (hd : Int) (rows : List Int) : Prop :=
 (lw.length ≤ 1000000) ∧ (((tieErr hk lw) != (0 : Int)) = true →
  ((True ∧ (tieErr hk lw) = weaveErr hk lw hd rows ∧ (([] : List SV) = [])) ∧ (((weaveC hk lw hd rows) = [] ∧ (weaveC hk lw hd rows).isEmpty = true) ∧ True))) ∧
 (((tieErr hk lw) != (0 : Int)) = false →
  (rows.length ≤ 1000000) ∧ (((pointErr hd rows) != (0 : Int)) = true →
   ((True ∧ (pointErr hd rows) = weaveErr hk lw hd rows ∧ (([] : List SV) = [])) ∧ (((weaveC hk lw hd rows) = [] ∧ (weaveC hk lw hd rows).isEmpty = true) ∧ True))) ∧
  (((pointErr hd rows) != (0 : Int)) = false →
   ((hd != hk) = true →
    ((True ∧ (4 : Int) = weaveErr hk lw hd rows ∧ (([] : List SV) = [])) ∧ (((weaveC hk lw hd rows) = [] ∧ (weaveC hk lw hd rows).isEmpty = true) ∧ True))) ∧
   ((hd != hk) = false →
    ∃ (e4 : Unit) (d40 : (List (List UInt8)) × Int), ((True ∧ True ∧ rows = rows ∧ (lI rows) = (lI rows) ∧ (0 : Int) = d40.2 ∧ True) ∧ ((hk = hk ∧ lw = lw ∧ (([] : List SV) = [])) ∧ (d40.1 = [] ∧ (List.isEmpty d40.1) = true) ∧ True)) ∧
    LoopP (fun (d4 : (List (List UInt8)) × Int) (q4 : ((List (List UInt8)) × Int) → Prop) =>
     ((decide (d4.2 < (lI rows))) = true →
      (0 ≤ d4.2) ∧ (d4.2 < (List.length rows)) ∧ (lw.length ≤ 110 ∧ 0 ≤ (gD rows d4.2 0) ∧ (gD rows d4.2 0) < 9223372036854775808 ∧ ∀ x ∈ lw, 0 ≤ x ∧ x ≤ 60) ∧ (((List.length d4.1) + (List.length [(pickS lw (gD rows d4.2 0))])) * 16 ≤ 70368744177664) ∧ (I64 (d4.2 + (1 : Int))) ∧ (∃ d5 : (List (List UInt8)) × Int, ((True ∧ True ∧ rows = rows ∧ (lI rows) = (lI rows) ∧ (d4.2 + (1 : Int)) = d5.2 ∧ True) ∧ ((hk = hk ∧ lw = lw ∧ (([] : List SV) = [])) ∧ ((d4.1 ++ [(pickS lw (gD rows d4.2 0))]) = d5.1 ∧ false = (List.isEmpty d5.1)) ∧ True)) ∧ q4 d5)) ∧
     ((decide (d4.2 < (lI rows))) = false →
      ((True ∧ (0 : Int) = weaveErr hk lw hd rows ∧ (([] : List SV) = [])) ∧ ((d4.1 = (weaveC hk lw hd rows) ∧ (List.isEmpty d4.1) = (weaveC hk lw hd rows).isEmpty) ∧ True)))) d40)))
def cx_tie_Weave : Cx := ⟨[(9, .st)], [(62, s_tie_Check), (63, s_point_Check), (64, s_tie_harness_pick)], 43, [], 0, [], [], [], [], false⟩
def lp_tie_Weave (hk : Int) (lw : List Int) (hd : Int) (rows : List Int) : List (Nat × LoopAnn) := [(1, ⟨Unit, (List (List UInt8)) × Int, [2, 4, 28, 29, 30], fun e x => [.box 2 0, .lst 40, .val (.list (.i .i64)) rows, .val (.i .i64) (((List.length rows) : Nat) : Int), .val (.i .i64) x.2], fun e x => [(2, .slot 2, .cells [.val (.i .i64) hk, .val (.list (.i .i64)) lw] (some 24)), (40, .slot 4, .lst 9 .st x.1 (List.isEmpty x.1))]⟩)]
set_option maxRecDepth 100000 in
theorem vq_tie_Weave (d : (Int × List Int) × Int × List Int) : gwp (cx_tie_Weave) (lp_tie_Weave d.1.1 d.1.2 d.2.1 d.2.2) c36 0 (gend [.tmp 4, .tmp 5] (res_tie_Weave d) (obs_tie_Weave d)) (gstart 43 (AL.can al_tie_Weave d)) = vc_tie_Weave d.1.1 d.1.2 d.2.1 d.2.2 := by kernel_rfl
abbrev Ok_tie_Weave : Prop := OkC Tryd.prog 36 s_tie_Weave
theorem mk_tie_Weave (h : ∀ (hk : Int) (lw : List Int) (hd : Int) (rows : List Int), (lw.length ≤ 110 ∧ rows.length ≤ 110) → vc_tie_Weave hk lw hd rows) : OkC Tryd.prog 36 s_tie_Weave :=
 okC_vc fun36 mixed (C := cx_tie_Weave) (V := fun (d : (Int × List Int) × Int × List Int) => vc_tie_Weave d.1.1 d.1.2 d.2.1 d.2.2) ⟨(.cons ok_tie_Check (.cons ok_point_Check (.cons ok_tie_harness_pick .nil))), XsOk.nil, ItsOk.nil⟩ (vq_tie_Weave) fun d hp => h d.1.1 d.1.2 d.2.1 d.2.2 hp
theorem tieErr_zero {hk : Int} {lw : List Int} (h : tieErr hk lw = 0) : 1 ≤ hk ∧ hk ≤ 24 ∧ lw.length ≤ 96 ∧ lw.length ≠ 0 ∧ ∀ x ∈ lw, 0 ≤ x ∧ x < hk := by
 unfold tieErr at h
 split at h
 ·cases h
 ·rename_i h1
  split at h
  ·cases h
  ·rename_i h2
   split at h
   ·cases h
   ·rename_i h3
    split at h
    ·cases h
    ·rename_i h4
     have h1 : 1 ≤ hk ∧ hk ≤ 24 := by simpa [inI] using h1
     refine ⟨h1.1, h1.2, by omega, h3, fun x hx => ?_⟩
     have h5 : ∀ x ∈ lw, inI x 0 (hk - 1) = true := by simpa using h4
     have := h5 x hx
     simp only [inI, Bool.and_eq_true, decide_eq_true_eq] at this
     omega
theorem pointErr_zero {hd : Int} {rows : List Int} (h : pointErr hd rows = 0) : 1 ≤ hd ∧ hd ≤ 24 ∧ rows.length ≤ 60 ∧ rows.length ≠ 0 ∧ ∀ x ∈ rows, 0 ≤ x ∧ x < 2 ^ hd.toNat := by
 unfold pointErr at h
 split at h
 ·cases h
 ·rename_i h1
  split at h
  ·cases h
  ·rename_i h2
   split at h
   ·cases h
   ·rename_i h3
    split at h
    ·cases h
    ·rename_i h4
     have h1 : 1 ≤ hd ∧ hd ≤ 24 := by simpa [inI] using h1
     refine ⟨h1.1, h1.2, by omega, h3, fun x hx => ?_⟩
     have h5 : ∀ x ∈ rows, inI x 0 (2 ^ hd.toNat - 1) = true := by simpa using h4
     have := h5 x hx
     simp only [inI, Bool.and_eq_true, decide_eq_true_eq] at this
     omega
theorem ok_tie_Weave : Ok_tie_Weave := mk_tie_Weave fun hk lw hd rows h => by
 obtain ⟨h1, h2⟩ := h
 unfold vc_tie_Weave; (try delta lI gD sT I64); simp only [true_and, and_true, exists_const, decide_eq_true_eq, decide_eq_false_iff_not, bne_iff_ne, ne_eq, bne_eq_false_iff_eq, InK_i64]
 refine ⟨by omega, fun he => ?_, fun he => ⟨by omega, fun hp => ?_, fun hp => ⟨fun hh => ?_, fun hh => ?_⟩⟩⟩
 ·have e : weaveErr hk lw hd rows = tieErr hk lw := by simp [weaveErr, he]
  have e2 : weaveC hk lw hd rows = [] := by simp [weaveC, e, he]
  rw [e, e2]; exact ⟨rfl, rfl, rfl⟩
 ·have e : weaveErr hk lw hd rows = pointErr hd rows := by simp [weaveErr, he, hp]
  have e2 : weaveC hk lw hd rows = [] := by simp [weaveC, e, hp]
  rw [e, e2]; exact ⟨rfl, rfl, rfl⟩
 ·have e : weaveErr hk lw hd rows = 4 := by simp [weaveErr, he, hp, hh]
  have e2 : weaveC hk lw hd rows = [] := by simp [weaveC, e]
  rw [e, e2]; exact ⟨rfl, rfl, rfl⟩
 have e : weaveErr hk lw hd rows = 0 := by unfold weaveErr; rw [if_neg (by omega), if_neg (by omega), if_neg (by omega)]
 have e2 : weaveC hk lw hd rows = rows.map (pickS lw) := by simp [weaveC, e]
 obtain ⟨t1, t2, t3, t4, t5⟩ := tieErr_zero he
 obtain ⟨p1, p2, p3, p4, p5⟩ := pointErr_zero hp
 have hpw := pow_bound p1 p2
 rw [e, e2]
 refine ⟨([], 0), ⟨rfl, rfl, rfl⟩, ?_⟩
 refine LoopP.count2 rows.length (fun k xs => xs = (rows.take k).map (pickS lw)) (by simp) fun k xs hk hJ q hq => ?_
 have hxl : xs.length = k := by rw [hJ]; simp; omega
 dsimp only
 refine ⟨fun hlt => ?_, fun hge => ?_⟩
 ·have hlt : k < rows.length := by omega
  have hr := p5 _ (List.getElem_mem hlt)
  simp only [Int.toNat_natCast, getD_nat hlt, List.length_singleton]
  refine ⟨by omega, by omega, ⟨h1, hr.1, by omega, fun x hx => by have := t5 x hx; omega⟩, by omega, by omega, (xs ++ [pickS lw rows[k]], (k : Int) + 1), ⟨rfl, rfl, by simp⟩, hq _ hlt ?_⟩
  rw [take_succ_eq hlt, List.map_append, ← hJ]; rfl
 ·have : k = rows.length := by omega
  subst this
  rw [List.take_length] at hJ
  rw [hJ]
  exact ⟨rfl, rfl, rfl⟩
end Go.Proofs.Tryd
set_option linter.unusedVariables false
namespace Go.Proofs.Tryd
open Go Go.V Go.Proofs
def al_eye_Wrong : AL ((Int × List Int) × List Int) := (.cons (.agg (.cons (.k (.i .i64)) (.one (.k (.list (.i .i64)))))) (.one (.k (.list (.i .i64)))))
def pre_eye_Wrong (d : (Int × List Int) × List Int) : Prop := d.1.2.length ≤ 110 ∧ d.2.length ≤ 110
def res_eye_Wrong (d : (Int × List Int) × List Int) : SV := .tup [.lst 0, .val (.i .i64) (eyeErr d.1.1 d.1.2 d.2)]
def obs_eye_Wrong (d : (Int × List Int) × List Int) : List OB := [.lst 3 (.i .i64) (wrongW d.1.1 d.1.2 d.2) ((wrongW d.1.1 d.1.2 d.2).isEmpty)]
def s_eye_Wrong : CSp := mkSp al_eye_Wrong pre_eye_Wrong res_eye_Wrong obs_eye_Wrong
def vc_eye_Wrong (hk : Int) (lw : List Int) (l : List Int) : Prop :=
 (lw.length ≤ 110 ∧ l.length ≤ 110) ∧ (((eyeErr hk lw l) != (0 : Int)) = true →
  ((True ∧ (eyeErr hk lw l) = eyeErr hk lw l ∧ (([] : List SV) = [])) ∧ (((wrongW hk lw l) = [] ∧ (wrongW hk lw l).isEmpty = true) ∧ True))) ∧
 (((eyeErr hk lw l) != (0 : Int)) = false →
  ∃ (e4 : Unit) (d40 : (List Int) × Int), ((l = l ∧ True ∧ True ∧ (lI l) = (lI l) ∧ (0 : Int) = d40.2 ∧ True) ∧ ((hk = hk ∧ lw = lw ∧ (([] : List SV) = [])) ∧ (d40.1 = [] ∧ (List.isEmpty d40.1) = true) ∧ True)) ∧
  LoopP (fun (d4 : (List Int) × Int) (q4 : ((List Int) × Int) → Prop) =>
   ((decide (d4.2 < (lI l))) = true →
    (0 ≤ d4.2 ∧ d4.2 < l.length ∧ l.length ≤ lw.length ∧ ∀ x ∈ l, -1 ≤ x ∧ x < lw.length) ∧ ((!(isRight lw l d4.2)) = true →
     (((List.length d4.1) + (List.length [d4.2])) * 8 ≤ 70368744177664) ∧ (I64 (d4.2 + (1 : Int))) ∧ (∃ d5 : (List Int) × Int, ((l = l ∧ True ∧ True ∧ (lI l) = (lI l) ∧ (d4.2 + (1 : Int)) = d5.2 ∧ True) ∧ ((hk = hk ∧ lw = lw ∧ (([] : List SV) = [])) ∧ ((d4.1 ++ [d4.2]) = d5.1 ∧ false = (List.isEmpty d5.1)) ∧ True)) ∧ q4 d5)) ∧
    ((!(isRight lw l d4.2)) = false →
     (I64 (d4.2 + (1 : Int))) ∧ (∃ d6 : (List Int) × Int, ((l = l ∧ True ∧ True ∧ (lI l) = (lI l) ∧ (d4.2 + (1 : Int)) = d6.2 ∧ True) ∧ ((hk = hk ∧ lw = lw ∧ (([] : List SV) = [])) ∧ (d4.1 = d6.1 ∧ (List.isEmpty d4.1) = (List.isEmpty d6.1)) ∧ True)) ∧ q4 d6))) ∧
   ((decide (d4.2 < (lI l))) = false →
    ((True ∧ (0 : Int) = eyeErr hk lw l ∧ (([] : List SV) = [])) ∧ ((d4.1 = (wrongW hk lw l) ∧ (List.isEmpty d4.1) = (wrongW hk lw l).isEmpty) ∧ True)))) d40)
def cx_eye_Wrong : Cx := ⟨[(3, (.i .i64))], [(45, s_eye_Check), (48, s_eye_board_isRight)], 31, [], 0, [], [], [], [], false⟩
def lp_eye_Wrong (hk : Int) (lw : List Int) (l : List Int) : List (Nat × LoopAnn) := [(0, ⟨Unit, (List Int) × Int, [1, 2, 4, 15, 16], fun e x => [.val (.list (.i .i64)) l, .box 2 0, .lst 28, .val (.i .i64) (((List.length l) : Nat) : Int), .val (.i .i64) x.2], fun e x => [(2, .slot 2, .cells [.val (.i .i64) hk, .val (.list (.i .i64)) lw] (some 24)), (28, .slot 4, .lst 3 (.i .i64) x.1 (List.isEmpty x.1))]⟩)]
set_option maxRecDepth 100000 in
theorem vq_eye_Wrong (d : (Int × List Int) × List Int) : gwp (cx_eye_Wrong) (lp_eye_Wrong d.1.1 d.1.2 d.2) c37 0 (gend [.tmp 4, .tmp 5] (res_eye_Wrong d) (obs_eye_Wrong d)) (gstart 31 (AL.can al_eye_Wrong d)) = vc_eye_Wrong d.1.1 d.1.2 d.2 := by kernel_rfl
abbrev Ok_eye_Wrong : Prop := OkC Tryd.prog 37 s_eye_Wrong
theorem mk_eye_Wrong (h : ∀ (hk : Int) (lw : List Int) (l : List Int), (lw.length ≤ 110 ∧ l.length ≤ 110) → vc_eye_Wrong hk lw l) : OkC Tryd.prog 37 s_eye_Wrong :=
 okC_vc fun37 mixed (C := cx_eye_Wrong) (V := fun (d : (Int × List Int) × List Int) => vc_eye_Wrong d.1.1 d.1.2 d.2) ⟨(.cons ok_eye_Check (.cons ok_eye_board_isRight .nil)), XsOk.nil, ItsOk.nil⟩ (vq_eye_Wrong) fun d hp => h d.1.1 d.1.2 d.2 hp
theorem wrongN_succ (lw l : List Int) (n : Nat) : wrongN lw l (n + 1) = wrongN lw l n ++ if isRight lw l n then [] else [(n : Int)] := by
 simp only [wrongN, List.range_succ, List.filter_append, List.map_append]
 congr 1
 cases h : isRight lw l n <;> simp [h]
theorem wrongN_len (lw l : List Int) (n : Nat) : (wrongN lw l n).length ≤ n := by
 simp only [wrongN, List.length_map]
 exact Nat.le_trans (List.length_filter_le _ _) (by simp)
theorem ok_eye_Wrong : Ok_eye_Wrong := mk_eye_Wrong fun hk lw l h => by
 unfold vc_eye_Wrong; (try delta lI gD sT I64); simp only [true_and, and_true, exists_const, decide_eq_true_eq, decide_eq_false_iff_not, bne_iff_ne, ne_eq, bne_eq_false_iff_eq, Bool.not_eq_true', Bool.not_eq_false', InK_i64]
 refine ⟨h, fun he => ?_, fun he => ?_⟩
 ·simp [wrongW, he]
 obtain ⟨h2, h0, h3⟩ := eyeErr_zero he
 refine ⟨([], 0), ⟨rfl, rfl, rfl⟩, ?_⟩
 refine LoopP.count2 l.length (fun k xs => xs = wrongN lw l k) rfl fun k xs hk' hJ q hq => ?_
 have hxl : xs.length ≤ k := by rw [hJ]; exact wrongN_len lw l k
 dsimp only
 refine ⟨fun hlt => ?_, fun hge => ?_⟩
 ·have hlt : k < l.length := by omega
  refine ⟨⟨by omega, by omega, by omega, h3⟩, fun hr => ?_, fun hr => ?_⟩
  ·simp only [List.length_singleton]
   refine ⟨by omega, by omega, (xs ++ [(k : Int)], (k : Int) + 1), ⟨rfl, rfl, by simp⟩, hq _ hlt ?_⟩
   rw [wrongN_succ, hr, hJ]; rfl
  ·refine ⟨by omega, (xs, (k : Int) + 1), ⟨rfl, rfl, rfl⟩, hq _ hlt ?_⟩
   rw [wrongN_succ, hr, hJ]; simp
 ·have : k = l.length := by omega
  subst this
  have e : wrongW hk lw l = wrongN lw l l.length := by simp [wrongW, he, wrongI]
  rw [e, hJ]
  exact ⟨he.symm, rfl, rfl⟩
def al_eye_Weave : AL ((Int × List Int) × List Int × Int × List Int) := (.cons (.agg (.cons (.k (.i .i64)) (.one (.k (.list (.i .i64)))))) (.cons (.k (.list (.i .i64))) (.one (.agg (.cons (.k (.i .i64)) (.one (.k (.list (.i .i64)))))))))
def pre_eye_Weave (d : (Int × List Int) × List Int × Int × List Int) : Prop := d.1.2.length ≤ 110 ∧ d.2.1.length ≤ 110 ∧ d.2.2.2.length ≤ 110
def res_eye_Weave (d : (Int × List Int) × List Int × Int × List Int) : SV := .tup [.lst 0, .val (.i .i64) (eyeWErr d.1.1 d.1.2 d.2.1 d.2.2.1 d.2.2.2)]
def obs_eye_Weave (d : (Int × List Int) × List Int × Int × List Int) : List OB := [.lst 9 .st (eyeWC d.1.1 d.1.2 d.2.1 d.2.2.1 d.2.2.2) ((eyeWC d.1.1 d.1.2 d.2.1 d.2.2.1 d.2.2.2).isEmpty)]
def s_eye_Weave : CSp := mkSp al_eye_Weave pre_eye_Weave res_eye_Weave obs_eye_Weave
def vc_eye_Weave (hk : Int) (lw : List Int) (l : List Int) (hd : Int) (rows : List Int) : Prop :=
 (lw.length ≤ 110 ∧ l.length ≤ 110) ∧ (((eyeErr hk lw l) != (0 : Int)) = true →
  ((True ∧ (eyeErr hk lw l) = eyeWErr hk lw l hd rows ∧ (([] : List SV) = [])) ∧ (((eyeWC hk lw l hd rows) = [] ∧ (eyeWC hk lw l hd rows).isEmpty = true) ∧ True))) ∧
 (((eyeErr hk lw l) != (0 : Int)) = false →
  (lw.length ≤ 110 ∧ rows.length ≤ 110) ∧ ((weaveErr hk lw hd rows != (0 : Int)) = true →
   ((True ∧ weaveErr hk lw hd rows = eyeWErr hk lw l hd rows ∧ (([] : List SV) = [])) ∧ (((eyeWC hk lw l hd rows) = [] ∧ (eyeWC hk lw l hd rows).isEmpty = true) ∧ True))) ∧
  ((weaveErr hk lw hd rows != (0 : Int)) = false →
   ∃ (e4 : Unit) (d40 : (List (List UInt8)) × Int), ((l = l ∧ True ∧ True ∧ (lI (weaveC hk lw hd rows)) = (lI (weaveC hk lw hd rows)) ∧ (0 : Int) = d40.2 ∧ True) ∧ ((d40.1 = [] ∧ (List.isEmpty d40.1) = true) ∧ ((weaveC hk lw hd rows) = (weaveC hk lw hd rows) ∧ (weaveC hk lw hd rows).isEmpty = (List.isEmpty (weaveC hk lw hd rows))) ∧ True)) ∧
   LoopP (fun (d4 : (List (List UInt8)) × Int) (q4 : ((List (List UInt8)) × Int) → Prop) =>
    ((decide (d4.2 < (lI (weaveC hk lw hd rows)))) = true →
     (0 ≤ d4.2) ∧ (d4.2 < (List.length (weaveC hk lw hd rows))) ∧ ∃ (e8 : (List (List UInt8)) × (List UInt8) × Int) (d80 : (List Int) × Int), ((l = l ∧ True ∧ (gD (weaveC hk lw hd rows) d4.2 []) = e8.2.1 ∧ True ∧ True ∧ (lI (weaveC hk lw hd rows)) = (lI (weaveC hk lw hd rows)) ∧ d4.2 = e8.2.2 ∧ l = l ∧ (lI l) = (lI l) ∧ (0 : Int) = d80.2 ∧ True) ∧ ((d4.1 = e8.1 ∧ (List.isEmpty d4.1) = (List.isEmpty e8.1)) ∧ (d80.1 = [] ∧ (List.isEmpty d80.1) = true) ∧ ((weaveC hk lw hd rows) = (weaveC hk lw hd rows) ∧ (List.isEmpty (weaveC hk lw hd rows)) = (List.isEmpty (weaveC hk lw hd rows))) ∧ True)) ∧
     LoopP (fun (d8 : (List Int) × Int) (q8 : ((List Int) × Int) → Prop) =>
      ((decide (d8.2 < (lI l))) = true →
       (0 ≤ d8.2) ∧ (d8.2 < (List.length l)) ∧ (((gD l d8.2 0) == (-1 : Int)) = true →
        (((List.length d8.1) + (List.length [(46 : Int)])) * 1 ≤ 70368744177664) ∧ (I64 (d8.2 + (1 : Int))) ∧ (∃ d9 : (List Int) × Int, ((l = l ∧ True ∧ e8.2.1 = e8.2.1 ∧ True ∧ True ∧ (lI (weaveC hk lw hd rows)) = (lI (weaveC hk lw hd rows)) ∧ e8.2.2 = e8.2.2 ∧ l = l ∧ (lI l) = (lI l) ∧ (d8.2 + (1 : Int)) = d9.2 ∧ True) ∧ ((e8.1 = e8.1 ∧ (List.isEmpty e8.1) = (List.isEmpty e8.1)) ∧ ((d8.1 ++ [(46 : Int)]) = d9.1 ∧ false = (List.isEmpty d9.1)) ∧ ((weaveC hk lw hd rows) = (weaveC hk lw hd rows) ∧ (List.isEmpty (weaveC hk lw hd rows)) = (List.isEmpty (weaveC hk lw hd rows))) ∧ True)) ∧ q8 d9)) ∧
       (((gD l d8.2 0) == (-1 : Int)) = false →
        (0 ≤ (gD l d8.2 0)) ∧ ((gD l d8.2 0) < (List.length e8.2.1)) ∧ (((List.length d8.1) + (List.length [((UInt8.toNat (gD e8.2.1 (gD l d8.2 0) 0) : Nat) : Int)])) * 1 ≤ 70368744177664) ∧ (I64 (d8.2 + (1 : Int))) ∧ (∃ d10 : (List Int) × Int, ((l = l ∧ True ∧ e8.2.1 = e8.2.1 ∧ True ∧ True ∧ (lI (weaveC hk lw hd rows)) = (lI (weaveC hk lw hd rows)) ∧ e8.2.2 = e8.2.2 ∧ l = l ∧ (lI l) = (lI l) ∧ (d8.2 + (1 : Int)) = d10.2 ∧ True) ∧ ((e8.1 = e8.1 ∧ (List.isEmpty e8.1) = (List.isEmpty e8.1)) ∧ ((d8.1 ++ [((UInt8.toNat (gD e8.2.1 (gD l d8.2 0) 0) : Nat) : Int)]) = d10.1 ∧ false = (List.isEmpty d10.1)) ∧ ((weaveC hk lw hd rows) = (weaveC hk lw hd rows) ∧ (List.isEmpty (weaveC hk lw hd rows)) = (List.isEmpty (weaveC hk lw hd rows))) ∧ True)) ∧ q8 d10))) ∧
      ((decide (d8.2 < (lI l))) = false →
       (((List.length e8.1) + (List.length [(bytesI d8.1)])) * 16 ≤ 70368744177664) ∧ (I64 (e8.2.2 + (1 : Int))) ∧ (∃ d11 : (List (List UInt8)) × Int, ((l = l ∧ True ∧ True ∧ (lI (weaveC hk lw hd rows)) = (lI (weaveC hk lw hd rows)) ∧ (e8.2.2 + (1 : Int)) = d11.2 ∧ True) ∧ (((e8.1 ++ [(bytesI d8.1)]) = d11.1 ∧ false = (List.isEmpty d11.1)) ∧ ((weaveC hk lw hd rows) = (weaveC hk lw hd rows) ∧ (List.isEmpty (weaveC hk lw hd rows)) = (List.isEmpty (weaveC hk lw hd rows))) ∧ True)) ∧ q4 d11))) d80) ∧
    ((decide (d4.2 < (lI (weaveC hk lw hd rows)))) = false →
     ((True ∧ (0 : Int) = eyeWErr hk lw l hd rows ∧ (([] : List SV) = [])) ∧ ((d4.1 = (eyeWC hk lw l hd rows) ∧ (List.isEmpty d4.1) = (eyeWC hk lw l hd rows).isEmpty) ∧ True)))) d40))
def cx_eye_Weave : Cx := ⟨[(5, (.i .u8)), (9, .st)], [(45, s_eye_Check), (36, s_tie_Weave)], 61, [], 0, [], [], [], [], false⟩
def lp_eye_Weave (hk : Int) (lw : List Int) (l : List Int) (hd : Int) (rows : List Int) : List (Nat × LoopAnn) := [(0, ⟨Unit, (List (List UInt8)) × Int, [1, 6, 30, 31, 32], fun e x => [.val (.list (.i .i64)) l, .lst 58, .lst 24, .val (.i .i64) (((List.length (weaveC hk lw hd rows)) : Nat) : Int), .val (.i .i64) x.2], fun e x => [(58, .slot 6, .lst 9 .st x.1 (List.isEmpty x.1)), (24, .slot 30, .lst 9 .st (weaveC hk lw hd rows) (List.isEmpty (weaveC hk lw hd rows)))]⟩),
 (2, ⟨(List (List UInt8)) × (List UInt8) × Int, (List Int) × Int, [1, 6, 11, 12, 30, 31, 32, 36, 37, 38], fun e x => [.val (.list (.i .i64)) l, .lst 58, .val .st e.2.1, .lst 46, .lst 24, .val (.i .i64) (((List.length (weaveC hk lw hd rows)) : Nat) : Int), .val (.i .i64) e.2.2, .val (.list (.i .i64)) l, .val (.i .i64) (((List.length l) : Nat) : Int), .val (.i .i64) x.2], fun e x => [(58, .slot 6, .lst 9 .st e.1 (List.isEmpty e.1)), (46, .slot 12, .lst 5 (.i .u8) x.1 (List.isEmpty x.1)), (24, .slot 30, .lst 9 .st (weaveC hk lw hd rows) (List.isEmpty (weaveC hk lw hd rows)))]⟩)]
set_option maxRecDepth 100000 in
theorem vq_eye_Weave (d : (Int × List Int) × List Int × Int × List Int) : gwp (cx_eye_Weave) (lp_eye_Weave d.1.1 d.1.2 d.2.1 d.2.2.1 d.2.2.2) c34 0 (gend [.tmp 6, .tmp 7] (res_eye_Weave d) (obs_eye_Weave d)) (gstart 61 (AL.can al_eye_Weave d)) = vc_eye_Weave d.1.1 d.1.2 d.2.1 d.2.2.1 d.2.2.2 := by kernel_rfl
abbrev Ok_eye_Weave : Prop := OkC Tryd.prog 34 s_eye_Weave
theorem mk_eye_Weave (h : ∀ (hk : Int) (lw : List Int) (l : List Int) (hd : Int) (rows : List Int), (lw.length ≤ 110 ∧ l.length ≤ 110 ∧ rows.length ≤ 110) → vc_eye_Weave hk lw l hd rows) : OkC Tryd.prog 34 s_eye_Weave :=
 okC_vc fun34 mixed (C := cx_eye_Weave) (V := fun (d : (Int × List Int) × List Int × Int × List Int) => vc_eye_Weave d.1.1 d.1.2 d.2.1 d.2.2.1 d.2.2.2) ⟨(.cons ok_eye_Check (.cons ok_tie_Weave .nil)), XsOk.nil, ItsOk.nil⟩ (vq_eye_Weave) fun d hp => h d.1.1 d.1.2 d.2.1 d.2.2.1 d.2.2.2 hp
theorem bytesI_snoc (l : List Int) (x : Int) : bytesI (l ++ [x]) = bytesI l ++ bytesI [x] := by simp [bytesI]
theorem drawC_snoc (l : List Int) (x : Int) (p : List UInt8) : drawC (l ++ [x]) p = drawC l p ++ [if x = -1 then 46 else p.getD x.toNat 0] := by simp only [drawC, List.map_append, List.map_cons, List.map_nil]
theorem ok_eye_Weave : Ok_eye_Weave := mk_eye_Weave fun hk lw l hd rows h => by
 obtain ⟨h1, h2, h3⟩ := h
 unfold vc_eye_Weave; (try delta lI gD sT I64); simp only [true_and, and_true, exists_const, decide_eq_true_eq, decide_eq_false_iff_not, beq_iff_eq, bne_iff_ne, ne_eq, beq_eq_false_iff_ne, bne_eq_false_iff_eq, InK_i64]
 refine ⟨⟨h1, h2⟩, fun he => ?_, fun he => ⟨⟨h1, h3⟩, fun hw => ?_, fun hw => ?_⟩⟩
 ·simp [eyeWErr, eyeWC, he]
 ·simp [eyeWErr, eyeWC, he, hw]
 obtain ⟨k2, k0, k3⟩ := eyeErr_zero he
 have e1 : eyeWErr hk lw l hd rows = 0 := by simp [eyeWErr, he, hw]
 have e2 : eyeWC hk lw l hd rows = rows.map fun r => drawC l (pickS lw r) := by simp [eyeWC, e1]
 have e3 : weaveC hk lw hd rows = rows.map (pickS lw) := by simp [weaveC, hw]
 rw [e1, e2]
 generalize hc : weaveC hk lw hd rows = cl
 rw [e3] at hc
 have hcl : cl.length = rows.length := by rw [← hc]; simp
 refine ⟨([], 0), ⟨rfl, rfl, rfl⟩, ?_⟩
 refine LoopP.count2 cl.length (fun k xs => xs = (cl.take k).map (drawC l)) (by simp) fun k xs hk' hJ q hq => ?_
 have hxl : xs.length = k := by rw [hJ]; simp; omega
 dsimp only
 refine ⟨fun hlt => ?_, fun hge => ?_⟩
 ·have hlt : k < cl.length := by omega
  have hpl : cl[k].length = lw.length := by simp [← hc, pickS]
  simp only [Int.toNat_natCast, getD_nat hlt]
  refine ⟨by omega, by omega, (xs, cl[k], (k : Int)), ([], 0), (by and_intros <;> first | rfl | trivial), ?_⟩
  refine LoopP.count2 l.length (fun j b => b.length = j ∧ bytesI b = drawC (l.take j) cl[k]) ⟨rfl, rfl⟩ fun j b hj hJ2 q2 hq2 => ?_
  obtain ⟨hbl, hJ2⟩ := hJ2
  dsimp only
  refine ⟨fun hjl => ?_, fun hjge => ?_⟩
  ·have hjl : j < l.length := by omega
   have hx := k3 _ (List.getElem_mem hjl)
   simp only [Int.toNat_natCast, getD_nat hjl, List.length_singleton]
   refine ⟨by omega, by omega, fun hm => ?_, fun hm => ?_⟩
   ·refine ⟨by omega, by omega, (b ++ [46], (j : Int) + 1), (by and_intros <;> first | rfl | trivial | simp), hq2 _ hjl ⟨by simp [hbl], ?_⟩⟩
    rw [bytesI_snoc, hJ2, take_succ_eq hjl, drawC_snoc, if_pos hm]; rfl
   ·have hr : (l[j]).toNat < cl[k].length := by omega
    simp only [getD_nat hr]
    refine ⟨by omega, by omega, by omega, by omega, (b ++ [((cl[k][(l[j]).toNat].toNat : Nat) : Int)], (j : Int) + 1), (by and_intros <;> first | rfl | trivial | simp), hq2 _ hjl ⟨by simp [hbl], ?_⟩⟩
    rw [bytesI_snoc, hJ2, take_succ_eq hjl, drawC_snoc, if_neg hm, getD_nat hr]
    simp [bytesI]
  ·have : j = l.length := by omega
   subst this
   rw [List.take_length] at hJ2
   refine ⟨by simp only [List.length_singleton]; omega, by omega, (xs ++ [bytesI b], (k : Int) + 1), ⟨rfl, rfl, by simp⟩, hq _ hlt ?_⟩
   rw [take_succ_eq hlt, List.map_append, ← hJ, hJ2]; rfl
 ·have : k = cl.length := by omega
  subst this
  rw [List.take_length] at hJ
  rw [hJ, ← hc]
  simp
def al_law11_ours : AL (Int × List Int) := (.one (.agg (.cons (.k (.i .i64)) (.one (.k (.list (.i .i64)))))))
def pre_law11_ours (d : Int × List Int) : Prop := d.2.length ≤ 110
def res_law11_ours (d : Int × List Int) : SV := .agg [.val (.i .i64) d.1, .lst 0]
def obs_law11_ours (d : Int × List Int) : List OB := [.lst 3 (.i .i64) d.2 false]
def s_law11_ours : CSp := mkSp al_law11_ours pre_law11_ours res_law11_ours obs_law11_ours
def vc_law11_ours (hd : Int) (rows : List Int) : Prop :=
 (rows.length ≤ 110) ∧ (false = true → rows = []) ∧ ((hd = hd ∧ True ∧ (([] : List SV) = [])) ∧ ((rows = rows ∧ false = false) ∧ True))
def cx_law11_ours : Cx := ⟨[], [(14, s_law11_ints)], 9, [], 0, [], [], [], [], false⟩
def lp_law11_ours (hd : Int) (rows : List Int) : List (Nat × LoopAnn) := []
set_option maxRecDepth 100000 in
theorem vq_law11_ours (d : Int × List Int) : gwp (cx_law11_ours) (lp_law11_ours d.1 d.2) c35 0 (gend [.cell 2 true 2] (res_law11_ours d) (obs_law11_ours d)) (gstart 9 (AL.can al_law11_ours d)) = vc_law11_ours d.1 d.2 := by kernel_rfl
abbrev Ok_law11_ours : Prop := OkC Tryd.prog 35 s_law11_ours
theorem mk_law11_ours (h : ∀ (hd : Int) (rows : List Int), (rows.length ≤ 110) → vc_law11_ours hd rows) : OkC Tryd.prog 35 s_law11_ours :=
 okC_vc fun35 mixed (C := cx_law11_ours) (V := fun (d : Int × List Int) => vc_law11_ours d.1 d.2) ⟨(.cons ok_law11_ints .nil), XsOk.nil, ItsOk.nil⟩ (vq_law11_ours) fun d hp => h d.1 d.2 hp
theorem ok_law11_ours : Ok_law11_ours := mk_law11_ours fun hd rows h => by
 simp [vc_law11_ours, h]
def al_law11_same : AL (List (List UInt8) × List (List UInt8)) := (.cons (.k (.list .st)) (.one (.k (.list .st))))
def pre_law11_same (d : List (List UInt8) × List (List UInt8)) : Prop := d.1.length ≤ 1000 ∧ d.2.length ≤ 1000
def res_law11_same (d : List (List UInt8) × List (List UInt8)) : SV := .val .bo (decide (d.1 = d.2))
def obs_law11_same (d : List (List UInt8) × List (List UInt8)) : List OB := []
def s_law11_same : CSp := mkSp al_law11_same pre_law11_same res_law11_same obs_law11_same
def vc_law11_same (a : List (List UInt8)) (b : List (List UInt8)) : Prop :=
 (((lI a) != (lI b)) = true →
  (false = (decide (a = b)) ∧ (True))) ∧
 (((lI a) != (lI b)) = false →
  ∃ (e2 : Unit) (d20 : Int), ((a = a ∧ b = b ∧ (0 : Int) = d20 ∧ True) ∧ (True)) ∧
  LoopP (fun (d2 : Int) (q2 : (Int) → Prop) =>
   ((decide (d2 < (lI a))) = true →
    (0 ≤ d2) ∧ (d2 < (List.length a)) ∧ (0 ≤ d2) ∧ (d2 < (List.length b)) ∧ ((!((gD a d2 []) == (gD b d2 []))) = true →
     (false = (decide (a = b)) ∧ (True))) ∧
    ((!((gD a d2 []) == (gD b d2 []))) = false →
     (I64 (d2 + (1 : Int))) ∧ (∃ d3 : Int, ((a = a ∧ b = b ∧ (d2 + (1 : Int)) = d3 ∧ True) ∧ (True)) ∧ q2 d3))) ∧
   ((decide (d2 < (lI a))) = false →
    (true = (decide (a = b)) ∧ (True)))) d20)
def cx_law11_same : Cx := ⟨[], [], 26, [], 0, [], [], [], [], false⟩
def lp_law11_same (a : List (List UInt8)) (b : List (List UInt8)) : List (Nat × LoopAnn) := [(0, ⟨Unit, Int, [0, 1, 5], fun e x => [.val (.list .st) a, .val (.list .st) b, .val (.i .i64) x], fun e x => []⟩)]
set_option maxRecDepth 100000 in
theorem vq_law11_same (d : List (List UInt8) × List (List UInt8)) : gwp (cx_law11_same) (lp_law11_same d.1 d.2) c38 0 (gend [.tmp 4] (res_law11_same d) (obs_law11_same d)) (gstart 26 (AL.can al_law11_same d)) = vc_law11_same d.1 d.2 := by kernel_rfl
abbrev Ok_law11_same : Prop := OkC Tryd.prog 38 s_law11_same
theorem mk_law11_same (h : ∀ (a : List (List UInt8)) (b : List (List UInt8)), (a.length ≤ 1000 ∧ b.length ≤ 1000) → vc_law11_same a b) : OkC Tryd.prog 38 s_law11_same :=
 okC_vc fun38 mixed (C := cx_law11_same) (V := fun (d : List (List UInt8) × List (List UInt8)) => vc_law11_same d.1 d.2) ⟨.nil, XsOk.nil, ItsOk.nil⟩ (vq_law11_same) fun d hp => h d.1 d.2 hp
theorem ok_law11_same : Ok_law11_same := mk_law11_same fun a b h => by
 unfold vc_law11_same; (try delta lI gD sT I64); simp only [true_and, and_true, exists_eq_left', exists_const, decide_eq_true_eq, decide_eq_false_iff_not, beq_iff_eq, bne_iff_ne, ne_eq, beq_eq_false_iff_ne, bne_eq_false_iff_eq, Bool.not_eq_true', Bool.not_eq_false', InK_i64]
 refine ⟨fun hne => ?_, fun he => ?_⟩
 ·symm; rw [decide_eq_false_iff_not]; rintro rfl; exact hne rfl
 ·have he : a.length = b.length := by omega
  refine LoopP.count a.length (fun k => a.take k = b.take k) rfl fun k hk hJ q hq => ?_
  refine ⟨fun hlt => ?_, fun hge => ?_⟩
  ·have hlt : k < a.length := by omega
   have hlb : k < b.length := by omega
   simp only [Int.toNat_natCast, getD_nat hlt, getD_nat hlb]
   refine ⟨by omega, by omega, by omega, by omega, fun hne => ?_, fun heq => ⟨by omega, hq hlt ?_⟩⟩
   ·symm; rw [decide_eq_false_iff_not]; rintro rfl; exact hne rfl
   ·rw [take_succ_eq hlt, take_succ_eq hlb, hJ, heq]
  ·have : k = a.length := by omega
   subst this
   rw [List.take_length, he, List.take_length] at hJ
   simp [hJ]
def al_law11_Board_design : AL (Int × List Int × List Int × List Int) := (.one (.agg (.cons (.k (.i .u8)) (.cons (.k (.list (.i .u8))) (.cons (.k (.list (.i .u16))) (.one (.k (.list (.i .u8)))))))))
def pre_law11_Board_design (d : Int × List Int × List Int × List Int) : Prop := bOk d.1 d.2.1 d.2.2.1 d.2.2.2
def res_law11_Board_design (d : Int × List Int × List Int × List Int) : SV := .agg [.val (.i .i64) (bHk d.1), .lst 0]
def obs_law11_Board_design (d : Int × List Int × List Int × List Int) : List OB := [.lst 3 (.i .i64) (bRows d.1 d.2.2.1) false]
def s_law11_Board_design : CSp := mkSp al_law11_Board_design pre_law11_Board_design res_law11_Board_design obs_law11_Board_design
def vc_law11_Board_design (h8 : Int) (ws : List Int) (rs : List Int) (ds : List Int) : Prop :=
 (I64 h8) ∧ ((10 : Int) ≠ 0) ∧ (I64 ((1 : Int) + (Int.tmod h8 (10 : Int)))) ∧ ∃ (e4 : Unit) (d40 : (List Int) × Int), ((True ∧ True ∧ True ∧ (0 : Int) = d40.2 ∧ True) ∧ ((h8 = h8 ∧ ws = ws ∧ rs = rs ∧ ds = ds ∧ (([] : List SV) = [])) ∧ ((0 : Int) = (0 : Int) ∧ True ∧ (([] : List SV) = [])) ∧ (((1 : Int) + (Int.tmod h8 (10 : Int))) = ((1 : Int) + (Int.tmod h8 (10 : Int))) ∧ True ∧ (([] : List SV) = [])) ∧ (d40.1 = [] ∧ (List.isEmpty d40.1) = true) ∧ True)) ∧
 LoopP (fun (d4 : (List Int) × Int) (q4 : ((List Int) × Int) → Prop) =>
  (((d4.2 == (0 : Int)) || ((decide (d4.2 < (lI rs))) && (decide (d4.2 < (8 : Int))))) = true →
   ((decide (d4.2 < (lI rs))) = true →
    (0 ≤ d4.2) ∧ (d4.2 < (List.length rs)) ∧ (I64 (gD rs d4.2 0)) ∧ (InK .u64 ((1 : Int) + (Int.tmod h8 (10 : Int)))) ∧ (0 ≤ ((1 : Int) + (Int.tmod h8 (10 : Int)))) ∧ (I64 (shlI .i64 (1 : Int) ((1 : Int) + (Int.tmod h8 (10 : Int))))) ∧ (I64 ((shlI .i64 (1 : Int) ((1 : Int) + (Int.tmod h8 (10 : Int)))) - (1 : Int))) ∧ (((List.length d4.1) + (List.length [(vbits .and .i64 (gD rs d4.2 0) ((shlI .i64 (1 : Int) ((1 : Int) + (Int.tmod h8 (10 : Int)))) - (1 : Int)))])) * 8 ≤ 70368744177664) ∧ (I64 (d4.2 + (1 : Int))) ∧ (∃ d5 : (List Int) × Int, ((True ∧ True ∧ True ∧ (d4.2 + (1 : Int)) = d5.2 ∧ True) ∧ ((h8 = h8 ∧ ws = ws ∧ rs = rs ∧ ds = ds ∧ (([] : List SV) = [])) ∧ ((0 : Int) = (0 : Int) ∧ True ∧ (([] : List SV) = [])) ∧ (((1 : Int) + (Int.tmod h8 (10 : Int))) = ((1 : Int) + (Int.tmod h8 (10 : Int))) ∧ True ∧ (([] : List SV) = [])) ∧ ((d4.1 ++ [(vbits .and .i64 (gD rs d4.2 0) ((shlI .i64 (1 : Int) ((1 : Int) + (Int.tmod h8 (10 : Int)))) - (1 : Int)))]) = d5.1 ∧ false = (List.isEmpty d5.1)) ∧ True)) ∧ q4 d5)) ∧
   ((decide (d4.2 < (lI rs))) = false →
    (InK .u64 ((1 : Int) + (Int.tmod h8 (10 : Int)))) ∧ (0 ≤ ((1 : Int) + (Int.tmod h8 (10 : Int)))) ∧ (I64 (shlI .i64 (1 : Int) ((1 : Int) + (Int.tmod h8 (10 : Int))))) ∧ (I64 ((shlI .i64 (1 : Int) ((1 : Int) + (Int.tmod h8 (10 : Int)))) - (1 : Int))) ∧ (((List.length d4.1) + (List.length [(vbits .and .i64 (21 : Int) ((shlI .i64 (1 : Int) ((1 : Int) + (Int.tmod h8 (10 : Int)))) - (1 : Int)))])) * 8 ≤ 70368744177664) ∧ (I64 (d4.2 + (1 : Int))) ∧ (∃ d6 : (List Int) × Int, ((True ∧ True ∧ True ∧ (d4.2 + (1 : Int)) = d6.2 ∧ True) ∧ ((h8 = h8 ∧ ws = ws ∧ rs = rs ∧ ds = ds ∧ (([] : List SV) = [])) ∧ ((0 : Int) = (0 : Int) ∧ True ∧ (([] : List SV) = [])) ∧ (((1 : Int) + (Int.tmod h8 (10 : Int))) = ((1 : Int) + (Int.tmod h8 (10 : Int))) ∧ True ∧ (([] : List SV) = [])) ∧ ((d4.1 ++ [(vbits .and .i64 (21 : Int) ((shlI .i64 (1 : Int) ((1 : Int) + (Int.tmod h8 (10 : Int)))) - (1 : Int)))]) = d6.1 ∧ false = (List.isEmpty d6.1)) ∧ True)) ∧ q4 d6))) ∧
  (((d4.2 == (0 : Int)) || ((decide (d4.2 < (lI rs))) && (decide (d4.2 < (8 : Int))))) = false →
   ((((1 : Int) + (Int.tmod h8 (10 : Int))) = (bHk h8) ∧ True ∧ (([] : List SV) = [])) ∧ ((d4.1 = (bRows h8 rs) ∧ (List.isEmpty d4.1) = false) ∧ True)))) d40
def cx_law11_Board_design : Cx := ⟨[(3, (.i .i64))], [], 51, [], 0, [], [], [], [], false⟩
def lp_law11_Board_design (h8 : Int) (ws : List Int) (rs : List Int) (ds : List Int) : List (Nat × LoopAnn) := [(0, ⟨Unit, (List Int) × Int, [1, 2, 3, 4], fun e x => [.box 1 0, .box 2 0, .box 3 0, .val (.i .i64) x.2], fun e x => [(1, .slot 1, .cells [.val (.i .u8) h8, .val (.list (.i .u8)) ws, .val (.list (.i .u16)) rs, .val (.list (.i .u8)) ds] (some 58)), (2, .slot 2, .cells [.val (.i .i64) (0 : Int), .nilS] (some 27)), (3, .slot 3, .cells [.val (.i .i64) ((1 : Int) + (Int.tmod h8 (10 : Int))), .lst 48] (some 27)), (48, .cell 3 1, .lst 3 (.i .i64) x.1 (List.isEmpty x.1))]⟩)]
set_option maxRecDepth 100000 in
theorem vq_law11_Board_design (d : Int × List Int × List Int × List Int) : gwp (cx_law11_Board_design) (lp_law11_Board_design d.1 d.2.1 d.2.2.1 d.2.2.2) c32 0 (gend [.cell 2 true 2] (res_law11_Board_design d) (obs_law11_Board_design d)) (gstart 51 (AL.can al_law11_Board_design d)) = vc_law11_Board_design d.1 d.2.1 d.2.2.1 d.2.2.2 := by kernel_rfl
abbrev Ok_law11_Board_design : Prop := OkC Tryd.prog 32 s_law11_Board_design
theorem mk_law11_Board_design (h : ∀ (h8 : Int) (ws : List Int) (rs : List Int) (ds : List Int), (bOk h8 ws rs ds) → vc_law11_Board_design h8 ws rs ds) : OkC Tryd.prog 32 s_law11_Board_design :=
 okC_vc fun32 mixed (C := cx_law11_Board_design) (V := fun (d : Int × List Int × List Int × List Int) => vc_law11_Board_design d.1 d.2.1 d.2.2.1 d.2.2.2) ⟨.nil, XsOk.nil, ItsOk.nil⟩ (vq_law11_Board_design) fun d hp => h d.1 d.2.1 d.2.2.1 d.2.2.2 hp
theorem and_mask {x h : Int} (h0 : 0 ≤ x) (h1 : x < 9223372036854775808) (a : 1 ≤ h) (b : h ≤ 24) : vbits .and .i64 x (shlI .i64 1 h - 1) = x % 2 ^ h.toNat := by
 obtain ⟨n, rfl⟩ := Int.eq_ofNat_of_zero_le h0
 obtain ⟨m, rfl⟩ := Int.eq_ofNat_of_zero_le (show 0 ≤ h by omega)
 have hp := pow_bound a b
 rw [shl_one (by omega) (by omega)]
 simp only [Int.toNat_natCast] at hp ⊢
 have e2 : ((2 : Int) ^ m) = ((2 ^ m : Nat) : Int) := by rw [Int.natCast_pow]; rfl
 rw [e2] at hp ⊢
 have e : (((2 ^ m : Nat) : Int) - 1) = ((2 ^ m - 1 : Nat) : Int) := by omega
 rw [e, vand_nat (by omega) (by omega), Nat.and_two_pow_sub_one_eq_mod]
 rfl
theorem rowsN_len {hk : Int} {cap : Nat} {rs : List Int} : (rowsN hk cap rs).length = if rs = [] then 1 else min cap rs.length := by
 unfold rowsN; split <;> simp
theorem rowsN_get {hk : Int} {cap : Nat} {rs : List Int} {i : Nat} (h : i < rs.length) (hc : i < cap) : (rowsN hk cap rs)[i]? = some (rs.getD i 0 % 2 ^ hk.toNat) := by
 have hne : rs ≠ [] := by rintro rfl; simp at h
 unfold rowsN; rw [if_neg hne]
 simp [hc, h]
theorem ok_law11_Board_design : Ok_law11_Board_design := mk_law11_Board_design fun h8 ws rs ds h => by
 obtain ⟨h1, h2, hws, hrs, hds⟩ := h
 have hk : 1 ≤ bHk h8 ∧ bHk h8 ≤ 10 := hkN_range (m := 10) (by omega) h1
 have e : (1 + Int.tmod h8 10) = bHk h8 := rfl
 have hp := pow_bound hk.1 (show bHk h8 ≤ 24 by omega)
 have hs := shl_one (show 0 ≤ bHk h8 by omega) (show bHk h8 ≤ 62 by omega)
 have hm : ∀ x, 0 ≤ x → x < 9223372036854775808 → vbits .and .i64 x (2 ^ (bHk h8).toNat - 1) = x % 2 ^ (bHk h8).toNat := fun x a b => by
  have := and_mask a b hk.1 (show bHk h8 ≤ 24 by omega)
  rwa [hs] at this
 have hu : InK .u64 (bHk h8) := ⟨by show (0 : Int) ≤ _; omega, by show _ ≤ (18446744073709551615 : Int); omega⟩
 unfold vc_law11_Board_design; (try delta lI gD sT I64); simp only [true_and, and_true, exists_const, decide_eq_true_eq, decide_eq_false_iff_not, ne_eq, InK_i64, e, hs, hu]
 refine ⟨by omega, by omega, by omega, ([], 0), ⟨rfl, rfl, rfl⟩, ?_⟩
 have hN : (bRows h8 rs).length = if rs = [] then 1 else min 8 rs.length := rowsN_len
 have hcond : ∀ k : Nat, (((k : Int) == 0) || (decide ((k : Int) < rs.length) && decide ((k : Int) < 8))) = decide (k < (bRows h8 rs).length) := fun k => by
  rw [hN]
  by_cases hz : rs = []
  ·subst hz
   cases k <;> simp; omega
  ·have : 0 < rs.length := List.length_pos_iff.2 hz
   rw [if_neg hz]
   cases k with
   | zero => simp; omega
   | succ k =>
    rw [Bool.eq_iff_iff]
    simp; omega
 have hNle : (bRows h8 rs).length ≤ 8 := by rw [hN]; split <;> omega
 refine LoopP.count2 (bRows h8 rs).length (fun k xs => xs = (bRows h8 rs).take k) (by simp) fun k xs hk' hJ q hq => ?_
 dsimp only
 rw [hcond]
 simp only [decide_eq_true_eq, decide_eq_false_iff_not, Int.toNat_natCast, Int.ofNat_lt]
 refine ⟨fun hlt => ⟨fun hw => ?_, fun hw => ?_⟩, fun hge => ?_⟩
 ·have hw : k < rs.length := by omega
  have hrs' := hrs _ (List.getElem_mem hw)
  have hk8 : k < 8 := by omega
  simp only [getD_nat hw, List.length_singleton]
  have hv : (bRows h8 rs)[k] = rs[k] % 2 ^ (bHk h8).toNat := by
   have := rowsN_get (hk := bHk h8) hw hk8
   rw [getD_nat hw] at this
   have h3 := List.getElem?_eq_getElem hlt
   exact Option.some.inj (h3.symm.trans this)
  rw [hm _ (by omega) (by omega)]
  refine ⟨by omega, by omega, by omega, by omega, by omega, by omega, by rw [hJ, List.length_take]; omega, by omega, (xs ++ [rs[k] % 2 ^ (bHk h8).toNat], (k : Int) + 1), ⟨rfl, rfl, by simp⟩, hq _ hlt ?_⟩
  rw [take_succ_eq hlt, ← hJ, hv]
 ·have hz : rs = [] := by
   cases hrs : rs with
   | nil => rfl
   | cons a l =>
    exfalso
    rw [hN] at hlt
    have : rs ≠ [] := by rw [hrs]; simp
    rw [if_neg this] at hlt
    omega
  have hk0 : k = 0 := by rw [hN, if_pos hz] at hlt; omega
  subst hk0
  simp only [List.length_singleton]
  rw [hm _ (by omega) (by omega)]
  refine ⟨by omega, by omega, by omega, by rw [hJ, List.length_take]; omega, by omega, (xs ++ [21 % 2 ^ (bHk h8).toNat], 1), ⟨rfl, rfl, by simp⟩, hq _ hlt ?_⟩
  rw [take_succ_eq hlt, ← hJ]
  simp [bRows, rowsN, hz]
 ·have : k = (bRows h8 rs).length := by omega
  subst this
  rw [List.take_length] at hJ
  subst hJ
  refine ⟨rfl, ?_⟩
  rw [List.isEmpty_eq_false_iff]
  intro hz
  rw [hz] at hN
  split at hN
  ·cases hN
  ·rename_i hne
   have := List.length_pos_iff.2 hne
   simp only [List.length_nil] at hN
   omega
end Go.Proofs.Tryd
set_option linter.unusedVariables false
namespace Go.Proofs.Tryd
open Go Go.V Go.Proofs
def injA (lw a : List Int) : Prop := ∀ i j : Nat, i < lw.length → j < lw.length → i ≠ j → a.getD i 0 ≠ -1 → a.getD i 0 ≠ a.getD j 0
theorem step_in {lw a : List Int} (ha : okA lw a) {k : Nat} (hk : k < lw.length) (hl : a.getD k 0 = -1) : ∃ e : Nat, e < lw.length ∧ (e : Int) ∉ a ∧ lw.getD e 0 = lw.getD k 0 ∧ step lw a k = a.set k e := by
 obtain ⟨e0, h1, h2⟩ := free_eye ha hk hl
 unfold step
 split
 ·rename_i e he
  have h3 := List.find?_some he
  have h4 := List.mem_of_find?_eq_some he
  simp only [cand, Int.toNat_natCast, Bool.and_eq_true, beq_iff_eq, Bool.not_eq_true'] at h3
  refine ⟨e, by simpa using h4, ?_, h3.1, rfl⟩
  intro hm
  rw [List.contains_iff_mem.2 hm] at h3
  exact absurd h3.2 (by simp)
 ·rename_i hn
  have := List.find?_eq_none.1 hn e0 (List.mem_range.2 h1)
  exact absurd h2 this
theorem getD_setI {a : List Int} {k i : Nat} {x : Int} (hk : k < a.length) : (a.set k x).getD i 0 = if i = k then x else a.getD i 0 := by
 simp only [List.getD_eq_getElem?_getD, List.getElem?_set]
 by_cases h : k = i
 ·subst h; simp [hk]
 ·have : ¬ i = k := fun e => h e.symm
  simp [h, this]
theorem fold_right {lw : List Int} : ∀ (W a : List Int), okA lw a → injA lw a → W.Nodup → (∀ w ∈ W, ∃ k : Nat, w = k ∧ k < lw.length) → (∀ k : Nat, k < lw.length → (a.getD k 0 = -1 ↔ (k : Int) ∈ W)) →
  okA lw (W.foldl (step lw) a) ∧ injA lw (W.foldl (step lw) a) ∧ (∀ k : Nat, k < lw.length → (W.foldl (step lw) a).getD k 0 ≠ -1) ∧ ∀ k : Nat, k < lw.length → (k : Int) ∉ W → (W.foldl (step lw) a).getD k 0 = a.getD k 0
 | [], a, h1, h2, _, _, h5 => ⟨h1, h2, fun k hk h => by simpa using (h5 k hk).1 h, fun _ _ _ => rfl⟩
 | w :: W, a, h1, h2, h3, h4, h5 => by
  obtain ⟨k, rfl, hk⟩ := h4 w List.mem_cons_self
  have hnd := List.nodup_cons.1 h3
  have hak : a.getD k 0 = -1 := (h5 k hk).2 List.mem_cons_self
  obtain ⟨e, e1, e2, e3, e4⟩ := step_in h1 hk hak
  have hka : k < a.length := by rw [h1.1]; exact hk
  have hg : ∀ i, (step lw a k).getD i 0 = if i = k then (e : Int) else a.getD i 0 := fun i => by rw [e4]; exact getD_setI hka
  have hne : ∀ i, i < lw.length → a.getD i 0 ≠ e := fun i hi h => e2 (by
   rw [← h, getD_nat (by rw [h1.1]; exact hi)]; exact List.getElem_mem _)
  obtain ⟨r1, r2, r3, r4⟩ := fold_right W (step lw a k) (step_ok h1 k) (fun i j hi hj hij => by
   rw [hg, hg]
   by_cases hik : i = k
   ·rw [if_pos hik, if_neg (by omega)]
    exact fun _ h => hne j hj h.symm
   ·rw [if_neg hik]
    by_cases hjk : j = k
    ·rw [if_pos hjk]; exact fun _ => hne i hi
    ·rw [if_neg hjk]; exact h2 i j hi hj hij) hnd.2 (fun w hw => h4 w (List.mem_cons_of_mem _ hw)) (fun i hi => by
   rw [hg]
   by_cases hik : i = k
   ·rw [if_pos hik, hik]
    exact ⟨fun h => by omega, fun h => absurd h hnd.1⟩
   ·rw [if_neg hik, h5 i hi, List.mem_cons]
    exact ⟨fun h => h.resolve_left (by omega), .inr⟩)
  refine ⟨r1, r2, r3, fun i hi hm => ?_⟩
  rw [List.foldl_cons, r4 i hi fun h => hm (List.mem_cons_of_mem _ h), hg, if_neg fun h => hm (by rw [h]; exact List.mem_cons_self)]
structure RightFacts (lw l : List Int) : Prop where
 wl : (redrawW lw l).length ≤ l.length
 al : (redrawA lw l).length = l.length
 rng : ∀ i : Nat, i < l.length → 0 ≤ (redrawA lw l).getD i 0 ∧ (redrawA lw l).getD i 0 < l.length ∧ lw.getD ((redrawA lw l).getD i 0).toNat 0 = lw.getD i 0
 inj : ∀ i j : Nat, i < l.length → j < l.length → i ≠ j → (redrawA lw l).getD i 0 ≠ (redrawA lw l).getD j 0
 keep : ∀ i : Nat, i < l.length → (i : Int) ∉ redrawW lw l → (redrawA lw l).getD i 0 = l.getD i 0
 incr : (redrawW lw l).Pairwise (· < ·)
 mem : ∀ x ∈ redrawW lw l, 0 ≤ x ∧ x < l.length
 last : ∀ k : Nat, k < l.length → (k : Int) ∈ redrawW lw l → 0 ≤ l.getD k 0 → lw.getD (l.getD k 0).toNat 0 = lw.getD k 0 → ∃ i : Nat, i < l.length ∧ i ≠ k ∧ l.getD i 0 = l.getD k 0 ∧ (i : Int) ∉ redrawW lw l
theorem initA_get {lw l : List Int} {k : Nat} (hk : k < l.length) : (initA lw l).getD k 0 = if stays lw l k then l.getD k 0 else -1 := by
 simp [initA, hk]
theorem right_facts {lw l : List Int} (h2 : l.length = lw.length) (h3 : ∀ x ∈ l, -1 ≤ x ∧ x < lw.length) : RightFacts lw l := by
 have hW : ∀ k : Nat, k < l.length → ((k : Int) ∈ redrawW lw l ↔ stays lw l k = false) := fun k hk => by
  rw [redrawW, Wn_mem]
  constructor
  ·rintro ⟨w, _, h, e⟩
   have : k = w := by omega
   rw [this]; exact h
  ·exact fun h => ⟨k, hk, h, rfl⟩
 have hst : ∀ k : Nat, k < l.length → stays lw l k = true → 0 ≤ l.getD k 0 := fun k hk hs => by
  simp only [stays, isRight, Bool.and_eq_true, Int.toNat_natCast, bne_iff_ne, ne_eq] at hs
  have := h3 _ (List.getElem_mem hk)
  rw [← getD_nat (d := 0) hk] at this
  have := hs.1.1
  omega
 obtain ⟨r1, r2, r3, r4⟩ := fold_right (redrawW lw l) (initA lw l) (init_ok h2 h3) (fun i j hi hj hij hne => by
   rw [initA_get (by omega)] at hne ⊢
   rw [initA_get (by omega)]
   cases hs : stays lw l i with
   | false => rw [hs] at hne; simp at hne
   | true =>
    rw [if_pos rfl]
    have hi0 := hst i (by omega) hs
    cases hs' : stays lw l j with
    | false => rw [if_neg (by simp)]; omega
    | true =>
     rw [if_pos rfl]
     intro he
     have key : ∀ a b : Nat, a < b → b < l.length → stays lw l a = true → stays lw l b = true → l.getD a 0 ≠ l.getD b 0 := fun a b hab hb ha hb' h => by
      simp only [stays, Bool.and_eq_true, List.all_eq_true, List.mem_range, Bool.or_eq_true, decide_eq_true_eq, Bool.not_eq_true', bne_iff_ne, ne_eq] at ha hb'
      rcases ha.2 b hb with h4 | h4 | h4
      ·omega
      ·exact h4 h.symm
      ·rw [hb'.1] at h4; cases h4
     rcases Nat.lt_or_gt_of_ne hij with h | h
     ·exact key i j h (by omega) hs hs' he
     ·exact key j i h (by omega) hs' hs he.symm)
  ((W_lt lw l l.length).imp fun h => by omega) (fun w hw => by
   obtain ⟨k, hk, _, e⟩ := Wn_mem.1 hw
   exact ⟨k, e, by omega⟩) (fun k hk => by
   rw [initA_get (by omega), hW k (by omega)]
   cases hs : stays lw l k with
   | false => simp
   | true =>
    have := hst k (by omega) hs
    rw [if_pos rfl]
    exact ⟨fun h => by omega, fun h => by cases h⟩)
 refine ⟨Wn_le lw l l.length, by rw [redrawA, fold_len]; simp [initA], fun i hi => ?_, fun i j hi hj hij => r2 i j (by omega) (by omega) hij (r3 i (by omega)), fun i hi hm => ?_, W_lt lw l l.length, fun x hx => ?_, fun k hk hm hk0 hr => ?_⟩
 ·rcases r1.2 i (by omega) with h | ⟨e, h4, h5, h6⟩
  ·exact absurd h (r3 i (by omega))
  ·rw [redrawA, h5]
   exact ⟨by omega, by omega, h6⟩
 ·rw [redrawA, r4 i (by omega) hm, initA_get hi, if_pos]
  cases hs : stays lw l i with
  | true => rfl
  | false => exact absurd ((hW i hi).2 hs) hm
 ·obtain ⟨w, hw, _, rfl⟩ := Wn_mem.1 hx
  omega
 ·have hir : isRight lw l k = true := by
   simp only [isRight, Int.toNat_natCast, Bool.and_eq_true, bne_iff_ne, ne_eq, beq_iff_eq]
   exact ⟨by omega, hr⟩
  obtain ⟨w, w1, w2, w3⟩ := last_stays l.length k (by omega) hk rfl hir
  refine ⟨w, w1, fun e => ?_, w2, fun h => ?_⟩
  ·subst e
   rw [(hW w hk).1 hm] at w3; cases w3
  ·rw [(hW w w1).1 h] at w3; cases w3
theorem drawC_right {lw a : List Int} (hl : a.length = lw.length) (h : ∀ i : Nat, i < a.length → 0 ≤ a.getD i 0 ∧ a.getD i 0 < a.length ∧ lw.getD (a.getD i 0).toNat 0 = lw.getD i 0) (r : Int) : drawC a (pickS lw r) = pickS lw r := by
 apply List.ext_getElem
 ·simp [drawC, pickS, hl]
 ·intro i h1 h2
  have hi : i < a.length := by simpa [drawC] using h1
  have hil : i < lw.length := by omega
  obtain ⟨h3, h4, h5⟩ := h i hi
  rw [getD_nat hi] at h3 h4 h5
  have h6 : (a[i]).toNat < lw.length := by omega
  rw [getD_nat h6, getD_nat hil] at h5
  have h7 : ¬ a[i] = -1 := by omega
  have h8 : (a[i]).toNat < (pickS lw r).length := by simpa [pickS] using h6
  simp only [drawC, List.getElem_map, if_neg h7, getD_nat h8]
  simp only [pickS, List.getElem_map, h5]
theorem wrong_nil {lw a : List Int} (h : ∀ i : Nat, i < a.length → 0 ≤ a.getD i 0 ∧ a.getD i 0 < a.length ∧ lw.getD (a.getD i 0).toNat 0 = lw.getD i 0) : wrongI lw a = [] := by
 rw [wrongI, wrongN, List.map_eq_nil_iff, List.filter_eq_nil_iff]
 intro i hi
 obtain ⟨h3, h4, h5⟩ := h i (List.mem_range.1 hi)
 simp only [isRight, Int.toNat_natCast, Bool.not_eq_true', Bool.not_eq_false, Bool.and_eq_true, bne_iff_ne, ne_eq, beq_iff_eq]
 exact ⟨by omega, h5⟩
theorem board_facts {h8 : Int} {ws rs ds : List Int} (hb : bOk h8 ws rs ds) : (1 ≤ bHk h8 ∧ bHk h8 ≤ 10) ∧ (∀ x ∈ bWarps h8 ws, 0 ≤ x ∧ x < bHk h8) ∧ 1 ≤ (bRows h8 rs).length ∧ (bRows h8 rs).length ≤ 8 ∧ ∀ x ∈ bRows h8 rs, 0 ≤ x ∧ x < 2 ^ (bHk h8).toNat := by
 obtain ⟨h1, h2, hws, hrs, hds⟩ := hb
 have hk : 1 ≤ bHk h8 ∧ bHk h8 ≤ 10 := hkN_range (m := 10) (by omega) h1
 have hp := pow_bound hk.1 (show bHk h8 ≤ 24 by omega)
 have hN : (bRows h8 rs).length = if rs = [] then 1 else min 8 rs.length := rowsN_len
 refine ⟨hk, fun x hx => ?_, ?_, by rw [hN]; split <;> omega, fun x hx => ?_⟩
 ·unfold bWarps warpsN at hx
  split at hx
  ·rw [List.mem_singleton.1 hx]; omega
  ·obtain ⟨y, hy, rfl⟩ := List.mem_map.1 hx
   have hy := hws y (List.mem_of_mem_take hy)
   exact ⟨Int.tmod_nonneg _ hy.1, Int.tmod_lt_of_pos _ (by omega)⟩
 ·rw [hN]; split
  ·omega
  ·rename_i h
   have := List.length_pos_iff.2 h
   omega
 ·unfold bRows rowsN at hx
  split at hx
  ·rw [List.mem_singleton.1 hx]
   exact ⟨Int.emod_nonneg _ (by omega), Int.emod_lt_of_pos _ (by omega)⟩
  ·obtain ⟨y, hy, rfl⟩ := List.mem_map.1 hx
   exact ⟨Int.emod_nonneg _ (by omega), Int.emod_lt_of_pos _ (by omega)⟩
theorem any_in {l : List Int} {a b : Int} (h : ∀ x ∈ l, a ≤ x ∧ x ≤ b) : (l.any fun x => !inI x a b) = false := by
 rw [List.any_eq_false]
 intro x hx
 have := h x hx
 simp [inI, this]
theorem tieErr_of {hk : Int} {lw : List Int} (h1 : 1 ≤ hk) (h2 : hk ≤ 24) (h3 : lw.length ≤ 96) (h4 : 1 ≤ lw.length) (h5 : ∀ x ∈ lw, 0 ≤ x ∧ x < hk) : tieErr hk lw = 0 := by
 unfold tieErr
 rw [if_neg (by simp [inI, h1, h2]), if_neg (by omega), if_neg (by omega), if_neg (by rw [any_in fun x hx => by have := h5 x hx; omega]; simp)]
theorem pointErr_of {hd : Int} {rows : List Int} (h1 : 1 ≤ hd) (h2 : hd ≤ 24) (h3 : rows.length ≤ 60) (h4 : 1 ≤ rows.length) (h5 : ∀ x ∈ rows, 0 ≤ x ∧ x < 2 ^ hd.toNat) : pointErr hd rows = 0 := by
 unfold pointErr
 rw [if_neg (by simp [inI, h1, h2]), if_neg (by omega), if_neg (by omega), if_neg (by rw [any_in fun x hx => by have := h5 x hx; omega]; simp)]
theorem eyeErr_of {hk : Int} {lw l : List Int} (ht : tieErr hk lw = 0) (hl : l.length = lw.length) (h : ∀ x ∈ l, -1 ≤ x ∧ x < lw.length) : eyeErr hk lw l = 0 := by
 unfold eyeErr
 rw [if_neg (by omega), if_neg (by omega), if_neg (by rw [any_in fun x hx => by have := h x hx; omega]; simp)]
theorem weaveErr_of {hk : Int} {lw rows : List Int} (ht : tieErr hk lw = 0) (hp : pointErr hk rows = 0) : weaveErr hk lw hk rows = 0 := by
 unfold weaveErr
 rw [if_neg (by omega), if_neg (by omega), if_neg (by omega)]
structure RightLoom (hk : Int) (lw rows l W A : List Int) : Prop where
 n1 : 1 ≤ lw.length
 n24 : lw.length ≤ 24
 r8 : rows.length ≤ 8
 len : l.length = lw.length
 val : ∀ x ∈ l, -1 ≤ x ∧ x < lw.length
 ee : eyeErr hk lw l = 0
 eA : eyeErr hk lw A = 0
 eW : weaveErr hk lw hk rows = 0
 eC : eyeWErr hk lw A hk rows = 0
 cc : eyeWC hk lw A hk rows = weaveC hk lw hk rows
 wc : (weaveC hk lw hk rows).length = rows.length
 wr : wrongW hk lw A = []
 rW : rdW hk lw l = W
 rA : rdA hk lw l = A
 zW : rdWz hk lw l = W.isEmpty
 zA : rdAz hk lw l = false
 f : RightFacts lw l
 fW : redrawW lw l = W
 fA : redrawA lw l = A
theorem right_loom {hk : Int} {lw rows l : List Int} (h1 : 1 ≤ hk ∧ hk ≤ 10) (hlw : ∀ x ∈ lw, 0 ≤ x ∧ x < hk) (hr1 : 1 ≤ rows.length) (hr8 : rows.length ≤ 8) (hr : ∀ x ∈ rows, 0 ≤ x ∧ x < 2 ^ hk.toNat) (n1 : 1 ≤ lw.length) (n24 : lw.length ≤ 24) (len : l.length = lw.length) (val : ∀ x ∈ l, -1 ≤ x ∧ x < lw.length) :
  RightLoom hk lw rows l (redrawW lw l) (redrawA lw l) := by
 have te := tieErr_of h1.1 (by omega) (by omega) n1 hlw
 have pe := pointErr_of h1.1 (by omega) (by omega) hr1 hr
 have we := weaveErr_of te pe
 have ee := eyeErr_of te len val
 have f := right_facts len val
 have eA := eyeErr_of te (by rw [f.al, len]) (l := redrawA lw l) fun x hx => by
  obtain ⟨i, hi, rfl⟩ := List.getElem_of_mem hx
  have := f.rng i (by rw [← f.al]; exact hi)
  rw [getD_nat hi] at this
  omega
 have rng : ∀ i : Nat, i < (redrawA lw l).length → 0 ≤ (redrawA lw l).getD i 0 ∧ (redrawA lw l).getD i 0 < (redrawA lw l).length ∧ lw.getD ((redrawA lw l).getD i 0).toNat 0 = lw.getD i 0 := fun i hi => by
  have := f.rng i (by rw [← f.al]; exact hi)
  rw [f.al]; exact this
 have eC : eyeWErr hk lw (redrawA lw l) hk rows = 0 := by unfold eyeWErr; rw [if_neg (by omega), we]
 refine ⟨n1, n24, hr8, len, val, ee, eA, we, eC, ?_, by simp [weaveC, we], by simp only [wrongW, eA, if_true]; exact wrong_nil rng, by simp [rdW, ee], by simp [rdA, ee], by simp [rdWz, ee], by simp [rdAz, ee], f, rfl, rfl⟩
 simp only [eyeWC, eC, weaveC, we, if_true]
 exact List.map_congr_left fun r _ => drawC_right (by rw [f.al, len]) rng r
end Go.Proofs.Tryd
set_option linter.unusedVariables false
namespace Go.Proofs.Tryd
open Go Go.V Go.Proofs
def al_law11_EyeRight : AL ((Int × List Int × List Int × List Int) × Int) := (.cons (.agg (.cons (.k (.i .u8)) (.cons (.k (.list (.i .u8))) (.cons (.k (.list (.i .u16))) (.one (.k (.list (.i .u8)))))))) (.one (.k (.i .u8))))
def pre_law11_EyeRight (d : (Int × List Int × List Int × List Int) × Int) : Prop := bOk d.1.1 d.1.2.1 d.1.2.2.1 d.1.2.2.2 ∧ 0 ≤ d.2 ∧ d.2 ≤ 255
def res_law11_EyeRight (d : (Int × List Int × List Int × List Int) × Int) : SV := .val .bo true
def obs_law11_EyeRight (d : (Int × List Int × List Int × List Int) × Int) : List OB := []
def s_law11_EyeRight : CSp := mkSp al_law11_EyeRight pre_law11_EyeRight res_law11_EyeRight obs_law11_EyeRight
def vc_law11_EyeRight (h8 : Int) (ws : List Int) (rs : List Int) (ds : List Int) (wh : Int) : Prop :=
 (bOk h8 ws rs ds) ∧ (false = true → (bWarps h8 ws) = []) ∧ (bOk h8 ws rs ds) ∧ (false = true → (bRows h8 rs) = []) ∧ ((wh = wh ∧ True ∧ True ∧ True ∧ ((bHk h8) = (bHk h8) ∧ True ∧ (([] : List SV) = [])) ∧ ((bHk h8) = (bHk h8) ∧ True ∧ (([] : List SV) = [])) ∧ True) ∧ ((h8 = h8 ∧ ws = ws ∧ rs = rs ∧ ds = ds ∧ (([] : List SV) = [])) ∧ ((0 : Int) = (0 : Int) ∧ True ∧ (([] : List SV) = [])) ∧ ((0 : Int) = (0 : Int) ∧ True ∧ (([] : List SV) = [])) ∧ ((bWarps h8 ws) = (bWarps h8 ws) ∧ false = false) ∧ ((bRows h8 rs) = (bRows h8 rs) ∧ false = false) ∧ True)) ∧ ((bOk h8 ws rs ds) ∧ (false = true → (bWarps h8 ws) = []) ∧ (bOk h8 ws rs ds) ∧ (false = true → (bRows h8 rs) = []) ∧ ((wh = wh ∧ True ∧ True ∧ True ∧ ((bHk h8) = (bHk h8) ∧ True ∧ (([] : List SV) = [])) ∧ ((bHk h8) = (bHk h8) ∧ True ∧ (([] : List SV) = [])) ∧ True) ∧ ((h8 = h8 ∧ ws = ws ∧ rs = rs ∧ ds = ds ∧ (([] : List SV) = [])) ∧ ((0 : Int) = (0 : Int) ∧ True ∧ (([] : List SV) = [])) ∧ ((0 : Int) = (0 : Int) ∧ True ∧ (([] : List SV) = [])) ∧ ((bWarps h8 ws) = (bWarps h8 ws) ∧ false = false) ∧ ((bRows h8 rs) = (bRows h8 rs) ∧ false = false) ∧ True))) ∧ ((bOk h8 ws rs ds) ∧ (false = true → (bWarps h8 ws) = []) ∧ (bOk h8 ws rs ds) ∧ (false = true → (bRows h8 rs) = []) ∧ ((wh = wh ∧ True ∧ True ∧ True ∧ ((bHk h8) = (bHk h8) ∧ True ∧ (([] : List SV) = [])) ∧ ((bHk h8) = (bHk h8) ∧ True ∧ (([] : List SV) = [])) ∧ True) ∧ ((h8 = h8 ∧ ws = ws ∧ rs = rs ∧ ds = ds ∧ (([] : List SV) = [])) ∧ ((0 : Int) = (0 : Int) ∧ True ∧ (([] : List SV) = [])) ∧ ((0 : Int) = (0 : Int) ∧ True ∧ (([] : List SV) = [])) ∧ ((bWarps h8 ws) = (bWarps h8 ws) ∧ false = false) ∧ ((bRows h8 rs) = (bRows h8 rs) ∧ false = false) ∧ True))) ∧ ((bOk h8 ws rs ds) ∧ (false = true → (bWarps h8 ws) = []) ∧ (bOk h8 ws rs ds) ∧ (false = true → (bRows h8 rs) = []) ∧ ((wh = wh ∧ True ∧ True ∧ True ∧ ((bHk h8) = (bHk h8) ∧ True ∧ (([] : List SV) = [])) ∧ ((bHk h8) = (bHk h8) ∧ True ∧ (([] : List SV) = [])) ∧ True) ∧ ((h8 = h8 ∧ ws = ws ∧ rs = rs ∧ ds = ds ∧ (([] : List SV) = [])) ∧ ((0 : Int) = (0 : Int) ∧ True ∧ (([] : List SV) = [])) ∧ ((0 : Int) = (0 : Int) ∧ True ∧ (([] : List SV) = [])) ∧ ((bWarps h8 ws) = (bWarps h8 ws) ∧ false = false) ∧ ((bRows h8 rs) = (bRows h8 rs) ∧ false = false) ∧ True))) ∧ ((bOk h8 ws rs ds) ∧ (false = true → (bWarps h8 ws) = []) ∧ (bOk h8 ws rs ds) ∧ (false = true → (bRows h8 rs) = []) ∧ ((wh = wh ∧ True ∧ True ∧ True ∧ ((bHk h8) = (bHk h8) ∧ True ∧ (([] : List SV) = [])) ∧ ((bHk h8) = (bHk h8) ∧ True ∧ (([] : List SV) = [])) ∧ True) ∧ ((h8 = h8 ∧ ws = ws ∧ rs = rs ∧ ds = ds ∧ (([] : List SV) = [])) ∧ ((0 : Int) = (0 : Int) ∧ True ∧ (([] : List SV) = [])) ∧ ((0 : Int) = (0 : Int) ∧ True ∧ (([] : List SV) = [])) ∧ ((bWarps h8 ws) = (bWarps h8 ws) ∧ false = false) ∧ ((bRows h8 rs) = (bRows h8 rs) ∧ false = false) ∧ True))) ∧ ((bOk h8 ws rs ds) ∧ (false = true → (bWarps h8 ws) = []) ∧ (bOk h8 ws rs ds) ∧ (false = true → (bRows h8 rs) = []) ∧ ((wh = wh ∧ True ∧ True ∧ True ∧ ((bHk h8) = (bHk h8) ∧ True ∧ (([] : List SV) = [])) ∧ ((bHk h8) = (bHk h8) ∧ True ∧ (([] : List SV) = [])) ∧ True) ∧ ((h8 = h8 ∧ ws = ws ∧ rs = rs ∧ ds = ds ∧ (([] : List SV) = [])) ∧ ((0 : Int) = (0 : Int) ∧ True ∧ (([] : List SV) = [])) ∧ ((0 : Int) = (0 : Int) ∧ True ∧ (([] : List SV) = [])) ∧ ((bWarps h8 ws) = (bWarps h8 ws) ∧ false = false) ∧ ((bRows h8 rs) = (bRows h8 rs) ∧ false = false) ∧ True))) ∧ ((bOk h8 ws rs ds) ∧ (false = true → (bWarps h8 ws) = []) ∧ (bOk h8 ws rs ds) ∧ (false = true → (bRows h8 rs) = []) ∧ ((wh = wh ∧ True ∧ True ∧ True ∧ ((bHk h8) = (bHk h8) ∧ True ∧ (([] : List SV) = [])) ∧ ((bHk h8) = (bHk h8) ∧ True ∧ (([] : List SV) = [])) ∧ True) ∧ ((h8 = h8 ∧ ws = ws ∧ rs = rs ∧ ds = ds ∧ (([] : List SV) = [])) ∧ ((0 : Int) = (0 : Int) ∧ True ∧ (([] : List SV) = [])) ∧ ((0 : Int) = (0 : Int) ∧ True ∧ (([] : List SV) = [])) ∧ ((bWarps h8 ws) = (bWarps h8 ws) ∧ false = false) ∧ ((bRows h8 rs) = (bRows h8 rs) ∧ false = false) ∧ True))) ∧ ((bOk h8 ws rs ds) ∧ (false = true → (bWarps h8 ws) = []) ∧ (bOk h8 ws rs ds) ∧ (false = true → (bRows h8 rs) = []) ∧ ((wh = wh ∧ True ∧ True ∧ True ∧ ((bHk h8) = (bHk h8) ∧ True ∧ (([] : List SV) = [])) ∧ ((bHk h8) = (bHk h8) ∧ True ∧ (([] : List SV) = [])) ∧ True) ∧ ((h8 = h8 ∧ ws = ws ∧ rs = rs ∧ ds = ds ∧ (([] : List SV) = [])) ∧ ((0 : Int) = (0 : Int) ∧ True ∧ (([] : List SV) = [])) ∧ ((0 : Int) = (0 : Int) ∧ True ∧ (([] : List SV) = [])) ∧ ((bWarps h8 ws) = (bWarps h8 ws) ∧ false = false) ∧ ((bRows h8 rs) = (bRows h8 rs) ∧ false = false) ∧ True))) ∧ ((bOk h8 ws rs ds) ∧ (false = true → (bWarps h8 ws) = []) ∧ (bOk h8 ws rs ds) ∧ (false = true → (bRows h8 rs) = []) ∧ ((wh = wh ∧ True ∧ True ∧ True ∧ ((bHk h8) = (bHk h8) ∧ True ∧ (([] : List SV) = [])) ∧ ((bHk h8) = (bHk h8) ∧ True ∧ (([] : List SV) = [])) ∧ True) ∧ ((h8 = h8 ∧ ws = ws ∧ rs = rs ∧ ds = ds ∧ (([] : List SV) = [])) ∧ ((0 : Int) = (0 : Int) ∧ True ∧ (([] : List SV) = [])) ∧ ((0 : Int) = (0 : Int) ∧ True ∧ (([] : List SV) = [])) ∧ ((bWarps h8 ws) = (bWarps h8 ws) ∧ false = false) ∧ ((bRows h8 rs) = (bRows h8 rs) ∧ false = false) ∧ True))) ∧ ((bOk h8 ws rs ds) ∧ (false = true → (bWarps h8 ws) = []) ∧ (bOk h8 ws rs ds) ∧ (false = true → (bRows h8 rs) = []) ∧ ((wh = wh ∧ True ∧ True ∧ True ∧ ((bHk h8) = (bHk h8) ∧ True ∧ (([] : List SV) = [])) ∧ ((bHk h8) = (bHk h8) ∧ True ∧ (([] : List SV) = [])) ∧ True) ∧ ((h8 = h8 ∧ ws = ws ∧ rs = rs ∧ ds = ds ∧ (([] : List SV) = [])) ∧ ((0 : Int) = (0 : Int) ∧ True ∧ (([] : List SV) = [])) ∧ ((0 : Int) = (0 : Int) ∧ True ∧ (([] : List SV) = [])) ∧ ((bWarps h8 ws) = (bWarps h8 ws) ∧ false = false) ∧ ((bRows h8 rs) = (bRows h8 rs) ∧ false = false) ∧ True))) ∧ ((bOk h8 ws rs ds) ∧ (false = true → (bWarps h8 ws) = []) ∧ (bOk h8 ws rs ds) ∧ (false = true → (bRows h8 rs) = []) ∧ ((wh = wh ∧ True ∧ True ∧ True ∧ ((bHk h8) = (bHk h8) ∧ True ∧ (([] : List SV) = [])) ∧ ((bHk h8) = (bHk h8) ∧ True ∧ (([] : List SV) = [])) ∧ True) ∧ ((h8 = h8 ∧ ws = ws ∧ rs = rs ∧ ds = ds ∧ (([] : List SV) = [])) ∧ ((0 : Int) = (0 : Int) ∧ True ∧ (([] : List SV) = [])) ∧ ((0 : Int) = (0 : Int) ∧ True ∧ (([] : List SV) = [])) ∧ ((bWarps h8 ws) = (bWarps h8 ws) ∧ false = false) ∧ ((bRows h8 rs) = (bRows h8 rs) ∧ false = false) ∧ True))) ∧ ((bOk h8 ws rs ds) ∧ (false = true → (bWarps h8 ws) = []) ∧ (bOk h8 ws rs ds) ∧ (false = true → (bRows h8 rs) = []) ∧ ((wh = wh ∧ True ∧ True ∧ True ∧ ((bHk h8) = (bHk h8) ∧ True ∧ (([] : List SV) = [])) ∧ ((bHk h8) = (bHk h8) ∧ True ∧ (([] : List SV) = [])) ∧ True) ∧ ((h8 = h8 ∧ ws = ws ∧ rs = rs ∧ ds = ds ∧ (([] : List SV) = [])) ∧ ((0 : Int) = (0 : Int) ∧ True ∧ (([] : List SV) = [])) ∧ ((0 : Int) = (0 : Int) ∧ True ∧ (([] : List SV) = [])) ∧ ((bWarps h8 ws) = (bWarps h8 ws) ∧ false = false) ∧ ((bRows h8 rs) = (bRows h8 rs) ∧ false = false) ∧ True))) ∧ (1 ≤ (lI (bWarps h8 ws)) ∧ (lI (bWarps h8 ws)) ≤ 24 ∧ bOk h8 ws rs ds) ∧ ((bWarps h8 ws).length ≤ 110) ∧ ((bDraw ds (lI (bWarps h8 ws)).toNat).length ≤ 110) ∧ ((bWarps h8 ws).length ≤ 110 ∧ (bDraw ds (lI (bWarps h8 ws)).toNat).length ≤ 110) ∧ ∀ (y1 : Bool), y1 = (eyeErr (bHk h8) (bWarps h8 ws) (bDraw ds (lI (bWarps h8 ws)).toNat) != (0 : Int)) → ∀ (y2 : Bool), y2 = ((lI (rdA (bHk h8) (bWarps h8 ws) (bDraw ds (lI (bWarps h8 ws)).toNat))) != (lI (bWarps h8 ws))) → ∀ (y3 : Bool), y3 = (y1 || y2) → ∀ (y4 : Bool), y4 = (decide ((lI (rdW (bHk h8) (bWarps h8 ws) (bDraw ds (lI (bWarps h8 ws)).toNat))) > (lI (bWarps h8 ws)))) → ∀ (y5 : Bool), y5 = (y3 || y4) → (y5 = true →
  (false = true ∧ (True))) ∧
 (y5 = false →
  ∃ (e3 : Unit) (d30 : (List (Int × Bool)) × Int), ((wh = wh ∧ True ∧ True ∧ (lI (bWarps h8 ws)) = (lI (bWarps h8 ws)) ∧ True ∧ True ∧ True ∧ True ∧ (0 : Int) = d30.2 ∧ True) ∧ (((bHk h8) = (bHk h8) ∧ True ∧ (([] : List SV) = [])) ∧ ((bWarps h8 ws) = (bWarps h8 ws) ∧ false = false) ∧ ((bHk h8) = (bHk h8) ∧ True ∧ (([] : List SV) = [])) ∧ ((bRows h8 rs) = (bRows h8 rs) ∧ false = false) ∧ ((bDraw ds (lI (bWarps h8 ws)).toNat) = (bDraw ds (lI (bWarps h8 ws)).toNat) ∧ false = false) ∧ ((rdW (bHk h8) (bWarps h8 ws) (bDraw ds (lI (bWarps h8 ws)).toNat)) = (rdW (bHk h8) (bWarps h8 ws) (bDraw ds (lI (bWarps h8 ws)).toNat)) ∧ (rdWz (bHk h8) (bWarps h8 ws) (bDraw ds (lI (bWarps h8 ws)).toNat)) = (rdWz (bHk h8) (bWarps h8 ws) (bDraw ds (lI (bWarps h8 ws)).toNat))) ∧ ((rdA (bHk h8) (bWarps h8 ws) (bDraw ds (lI (bWarps h8 ws)).toNat)) = (rdA (bHk h8) (bWarps h8 ws) (bDraw ds (lI (bWarps h8 ws)).toNat)) ∧ (rdAz (bHk h8) (bWarps h8 ws) (bDraw ds (lI (bWarps h8 ws)).toNat)) = (rdAz (bHk h8) (bWarps h8 ws) (bDraw ds (lI (bWarps h8 ws)).toNat))) ∧ (([] : List (Int × Bool)) = d30.1) ∧ True)) ∧
  LoopP (fun (d3 : (List (Int × Bool)) × Int) (q3 : ((List (Int × Bool)) × Int) → Prop) =>
   ∀ (y32 : Bool), y32 = (decide (d3.2 < (lI (rdW (bHk h8) (bWarps h8 ws) (bDraw ds (lI (bWarps h8 ws)).toNat))))) → (y32 = true →
    (0 ≤ d3.2) ∧ (d3.2 < (List.length (rdW (bHk h8) (bWarps h8 ws) (bDraw ds (lI (bWarps h8 ws)).toNat)))) ∧ ∀ (y33 : Int), y33 = (gD (rdW (bHk h8) (bWarps h8 ws) (bDraw ds (lI (bWarps h8 ws)).toNat)) d3.2 0) → ∀ (y34 : Bool), y34 = (decide (y33 < (0 : Int))) → (y34 = false → 0 ≤ d3.2) ∧ (y34 = false → d3.2 < (List.length (rdW (bHk h8) (bWarps h8 ws) (bDraw ds (lI (bWarps h8 ws)).toNat)))) ∧ ∀ (y35 : Int), y35 = (gD (rdW (bHk h8) (bWarps h8 ws) (bDraw ds (lI (bWarps h8 ws)).toNat)) d3.2 0) → ∀ (y36 : Bool), y36 = (decide (y35 ≥ (lI (bWarps h8 ws)))) → ∀ (y37 : Bool), y37 = (y34 || y36) → ∀ (y38 : Bool), y38 = (decide (d3.2 > (0 : Int))) → (y37 = false → y38 = true → 0 ≤ d3.2) ∧ (y37 = false → y38 = true → d3.2 < (List.length (rdW (bHk h8) (bWarps h8 ws) (bDraw ds (lI (bWarps h8 ws)).toNat)))) ∧ ∀ (y39 : Int), y39 = (gD (rdW (bHk h8) (bWarps h8 ws) (bDraw ds (lI (bWarps h8 ws)).toNat)) d3.2 0) → (y37 = false → y38 = true → InK .i64 (d3.2 - (1 : Int))) ∧ (y37 = false → y38 = true → 0 ≤ (d3.2 - (1 : Int))) ∧ (y37 = false → y38 = true → (d3.2 - (1 : Int)) < (List.length (rdW (bHk h8) (bWarps h8 ws) (bDraw ds (lI (bWarps h8 ws)).toNat)))) ∧ ∀ (y40 : Int), y40 = (gD (rdW (bHk h8) (bWarps h8 ws) (bDraw ds (lI (bWarps h8 ws)).toNat)) (d3.2 - (1 : Int)) 0) → ∀ (y41 : Bool), y41 = (decide (y39 ≤ y40)) → ∀ (y42 : Bool), y42 = (y38 && y41) → ∀ (y43 : Bool), y43 = (y37 || y42) → (y43 = true →
     (false = true ∧ (True))) ∧
    (y43 = false →
     (0 ≤ d3.2) ∧ (d3.2 < (List.length (rdW (bHk h8) (bWarps h8 ws) (bDraw ds (lI (bWarps h8 ws)).toNat)))) ∧ ∀ (y44 : Int), y44 = (gD (rdW (bHk h8) (bWarps h8 ws) (bDraw ds (lI (bWarps h8 ws)).toNat)) d3.2 0) → (I64 (d3.2 + (1 : Int))) ∧ (∃ d4 : (List (Int × Bool)) × Int, ((wh = wh ∧ True ∧ True ∧ (lI (bWarps h8 ws)) = (lI (bWarps h8 ws)) ∧ True ∧ True ∧ True ∧ True ∧ (d3.2 + (1 : Int)) = d4.2 ∧ True) ∧ (((bHk h8) = (bHk h8) ∧ True ∧ (([] : List SV) = [])) ∧ ((bWarps h8 ws) = (bWarps h8 ws) ∧ false = false) ∧ ((bHk h8) = (bHk h8) ∧ True ∧ (([] : List SV) = [])) ∧ ((bRows h8 rs) = (bRows h8 rs) ∧ false = false) ∧ ((bDraw ds (lI (bWarps h8 ws)).toNat) = (bDraw ds (lI (bWarps h8 ws)).toNat) ∧ false = false) ∧ ((rdW (bHk h8) (bWarps h8 ws) (bDraw ds (lI (bWarps h8 ws)).toNat)) = (rdW (bHk h8) (bWarps h8 ws) (bDraw ds (lI (bWarps h8 ws)).toNat)) ∧ (rdWz (bHk h8) (bWarps h8 ws) (bDraw ds (lI (bWarps h8 ws)).toNat)) = (rdWz (bHk h8) (bWarps h8 ws) (bDraw ds (lI (bWarps h8 ws)).toNat))) ∧ ((rdA (bHk h8) (bWarps h8 ws) (bDraw ds (lI (bWarps h8 ws)).toNat)) = (rdA (bHk h8) (bWarps h8 ws) (bDraw ds (lI (bWarps h8 ws)).toNat)) ∧ (rdAz (bHk h8) (bWarps h8 ws) (bDraw ds (lI (bWarps h8 ws)).toNat)) = (rdAz (bHk h8) (bWarps h8 ws) (bDraw ds (lI (bWarps h8 ws)).toNat))) ∧ ((aput (.i .i64) d3.1 y44 true) = d4.1) ∧ True)) ∧ q3 d4))) ∧
   (y32 = false →
    ∃ (e7 : (List (Int × Bool))) (d70 : (List (Int × Bool)) × Int), ((wh = wh ∧ True ∧ True ∧ (lI (bWarps h8 ws)) = (lI (bWarps h8 ws)) ∧ True ∧ True ∧ True ∧ True ∧ True ∧ (0 : Int) = d70.2 ∧ True) ∧ (((bHk h8) = (bHk h8) ∧ True ∧ (([] : List SV) = [])) ∧ ((bWarps h8 ws) = (bWarps h8 ws) ∧ false = false) ∧ ((bHk h8) = (bHk h8) ∧ True ∧ (([] : List SV) = [])) ∧ ((bRows h8 rs) = (bRows h8 rs) ∧ false = false) ∧ ((bDraw ds (lI (bWarps h8 ws)).toNat) = (bDraw ds (lI (bWarps h8 ws)).toNat) ∧ false = false) ∧ ((rdW (bHk h8) (bWarps h8 ws) (bDraw ds (lI (bWarps h8 ws)).toNat)) = (rdW (bHk h8) (bWarps h8 ws) (bDraw ds (lI (bWarps h8 ws)).toNat)) ∧ (rdWz (bHk h8) (bWarps h8 ws) (bDraw ds (lI (bWarps h8 ws)).toNat)) = (rdWz (bHk h8) (bWarps h8 ws) (bDraw ds (lI (bWarps h8 ws)).toNat))) ∧ ((rdA (bHk h8) (bWarps h8 ws) (bDraw ds (lI (bWarps h8 ws)).toNat)) = (rdA (bHk h8) (bWarps h8 ws) (bDraw ds (lI (bWarps h8 ws)).toNat)) ∧ (rdAz (bHk h8) (bWarps h8 ws) (bDraw ds (lI (bWarps h8 ws)).toNat)) = (rdAz (bHk h8) (bWarps h8 ws) (bDraw ds (lI (bWarps h8 ws)).toNat))) ∧ (d3.1 = e7) ∧ (([] : List (Int × Bool)) = d70.1) ∧ True)) ∧
    LoopP (fun (d7 : (List (Int × Bool)) × Int) (q7 : ((List (Int × Bool)) × Int) → Prop) =>
     ∀ (y89 : Bool), y89 = (decide (d7.2 < (lI (bWarps h8 ws)))) → (y89 = true →
      (0 ≤ d7.2) ∧ (d7.2 < (List.length (rdA (bHk h8) (bWarps h8 ws) (bDraw ds (lI (bWarps h8 ws)).toNat)))) ∧ ∀ (y90 : Int), y90 = (gD (rdA (bHk h8) (bWarps h8 ws) (bDraw ds (lI (bWarps h8 ws)).toNat)) d7.2 0) → ∀ (y91 : Bool), y91 = (decide (y90 < (0 : Int))) → (y91 = false → 0 ≤ d7.2) ∧ (y91 = false → d7.2 < (List.length (rdA (bHk h8) (bWarps h8 ws) (bDraw ds (lI (bWarps h8 ws)).toNat)))) ∧ ∀ (y92 : Int), y92 = (gD (rdA (bHk h8) (bWarps h8 ws) (bDraw ds (lI (bWarps h8 ws)).toNat)) d7.2 0) → ∀ (y93 : Bool), y93 = (decide (y92 ≥ (lI (bWarps h8 ws)))) → ∀ (y94 : Bool), y94 = (y91 || y93) → (y94 = false → 0 ≤ d7.2) ∧ (y94 = false → d7.2 < (List.length (rdA (bHk h8) (bWarps h8 ws) (bDraw ds (lI (bWarps h8 ws)).toNat)))) ∧ ∀ (y95 : Int), y95 = (gD (rdA (bHk h8) (bWarps h8 ws) (bDraw ds (lI (bWarps h8 ws)).toNat)) d7.2 0) → ∀ (y96 : Bool), y96 = (gq.aget (.i .i64) d7.1 y95 false) → ∀ (y97 : Bool), y97 = (y94 || y96) → ∀ (y98 : Bool), y98 = (gq.aget (.i .i64) e7 d7.2 false) → ∀ (y99 : Bool), y99 = (!y98) → (y97 = false → y99 = true → 0 ≤ d7.2) ∧ (y97 = false → y99 = true → d7.2 < (List.length (rdA (bHk h8) (bWarps h8 ws) (bDraw ds (lI (bWarps h8 ws)).toNat)))) ∧ ∀ (y100 : Int), y100 = (gD (rdA (bHk h8) (bWarps h8 ws) (bDraw ds (lI (bWarps h8 ws)).toNat)) d7.2 0) → (y97 = false → y99 = true → 0 ≤ d7.2) ∧ (y97 = false → y99 = true → d7.2 < (List.length (bDraw ds (lI (bWarps h8 ws)).toNat))) ∧ ∀ (y101 : Int), y101 = (gD (bDraw ds (lI (bWarps h8 ws)).toNat) d7.2 0) → ∀ (y102 : Bool), y102 = (y100 != y101) → ∀ (y103 : Bool), y103 = (y99 && y102) → ∀ (y104 : Bool), y104 = (y97 || y103) → (y104 = false → 0 ≤ d7.2) ∧ (y104 = false → d7.2 < (List.length (rdA (bHk h8) (bWarps h8 ws) (bDraw ds (lI (bWarps h8 ws)).toNat)))) ∧ ∀ (y105 : Int), y105 = (gD (rdA (bHk h8) (bWarps h8 ws) (bDraw ds (lI (bWarps h8 ws)).toNat)) d7.2 0) → (y104 = false → 0 ≤ y105) ∧ (y104 = false → y105 < (List.length (bWarps h8 ws))) ∧ ∀ (y106 : Int), y106 = (gD (bWarps h8 ws) y105 0) → (y104 = false → 0 ≤ d7.2) ∧ (y104 = false → d7.2 < (List.length (bWarps h8 ws))) ∧ ∀ (y107 : Int), y107 = (gD (bWarps h8 ws) d7.2 0) → ∀ (y108 : Bool), y108 = (y106 != y107) → ∀ (y109 : Bool), y109 = (y104 || y108) → (y109 = true →
       (false = true ∧ (True))) ∧
      (y109 = false →
       (0 ≤ d7.2) ∧ (d7.2 < (List.length (rdA (bHk h8) (bWarps h8 ws) (bDraw ds (lI (bWarps h8 ws)).toNat)))) ∧ ∀ (y110 : Int), y110 = (gD (rdA (bHk h8) (bWarps h8 ws) (bDraw ds (lI (bWarps h8 ws)).toNat)) d7.2 0) → (I64 (d7.2 + (1 : Int))) ∧ (∃ d8 : (List (Int × Bool)) × Int, ((wh = wh ∧ True ∧ True ∧ (lI (bWarps h8 ws)) = (lI (bWarps h8 ws)) ∧ True ∧ True ∧ True ∧ True ∧ True ∧ (d7.2 + (1 : Int)) = d8.2 ∧ True) ∧ (((bHk h8) = (bHk h8) ∧ True ∧ (([] : List SV) = [])) ∧ ((bWarps h8 ws) = (bWarps h8 ws) ∧ false = false) ∧ ((bHk h8) = (bHk h8) ∧ True ∧ (([] : List SV) = [])) ∧ ((bRows h8 rs) = (bRows h8 rs) ∧ false = false) ∧ ((bDraw ds (lI (bWarps h8 ws)).toNat) = (bDraw ds (lI (bWarps h8 ws)).toNat) ∧ false = false) ∧ ((rdW (bHk h8) (bWarps h8 ws) (bDraw ds (lI (bWarps h8 ws)).toNat)) = (rdW (bHk h8) (bWarps h8 ws) (bDraw ds (lI (bWarps h8 ws)).toNat)) ∧ (rdWz (bHk h8) (bWarps h8 ws) (bDraw ds (lI (bWarps h8 ws)).toNat)) = (rdWz (bHk h8) (bWarps h8 ws) (bDraw ds (lI (bWarps h8 ws)).toNat))) ∧ ((rdA (bHk h8) (bWarps h8 ws) (bDraw ds (lI (bWarps h8 ws)).toNat)) = (rdA (bHk h8) (bWarps h8 ws) (bDraw ds (lI (bWarps h8 ws)).toNat)) ∧ (rdAz (bHk h8) (bWarps h8 ws) (bDraw ds (lI (bWarps h8 ws)).toNat)) = (rdAz (bHk h8) (bWarps h8 ws) (bDraw ds (lI (bWarps h8 ws)).toNat))) ∧ (e7 = e7) ∧ ((aput (.i .i64) d7.1 y110 true) = d8.1) ∧ True)) ∧ q7 d8))) ∧
     (y89 = false →
      ((bWarps h8 ws).length ≤ 110) ∧ (false = true → (bWarps h8 ws) = []) ∧ ((rdA (bHk h8) (bWarps h8 ws) (bDraw ds (lI (bWarps h8 ws)).toNat)).length ≤ 110) ∧ (false = true → (rdA (bHk h8) (bWarps h8 ws) (bDraw ds (lI (bWarps h8 ws)).toNat)) = []) ∧ ((bRows h8 rs).length ≤ 110) ∧ ((bWarps h8 ws).length ≤ 110 ∧ (rdA (bHk h8) (bWarps h8 ws) (bDraw ds (lI (bWarps h8 ws)).toNat)).length ≤ 110 ∧ (bRows h8 rs).length ≤ 110) ∧ ((bWarps h8 ws).length ≤ 110) ∧ (false = true → (bWarps h8 ws) = []) ∧ ((bRows h8 rs).length ≤ 110) ∧ ((bWarps h8 ws).length ≤ 110 ∧ (bRows h8 rs).length ≤ 110) ∧ ((bWarps h8 ws).length ≤ 110) ∧ ((rdA (bHk h8) (bWarps h8 ws) (bDraw ds (lI (bWarps h8 ws)).toNat)).length ≤ 110) ∧ ((bWarps h8 ws).length ≤ 110 ∧ (rdA (bHk h8) (bWarps h8 ws) (bDraw ds (lI (bWarps h8 ws)).toNat)).length ≤ 110) ∧ ∀ (y111 : Bool), y111 = (eyeWErr (bHk h8) (bWarps h8 ws) (rdA (bHk h8) (bWarps h8 ws) (bDraw ds (lI (bWarps h8 ws)).toNat)) (bHk h8) (bRows h8 rs) != (0 : Int)) → ∀ (y112 : Bool), y112 = (weaveErr (bHk h8) (bWarps h8 ws) (bHk h8) (bRows h8 rs) != (0 : Int)) → ∀ (y113 : Bool), y113 = (y111 || y112) → ∀ (y114 : Bool), y114 = (eyeErr (bHk h8) (bWarps h8 ws) (rdA (bHk h8) (bWarps h8 ws) (bDraw ds (lI (bWarps h8 ws)).toNat)) != (0 : Int)) → ∀ (y115 : Bool), y115 = (y113 || y114) → ∀ (y116 : Bool), y116 = ((lI (wrongW (bHk h8) (bWarps h8 ws) (rdA (bHk h8) (bWarps h8 ws) (bDraw ds (lI (bWarps h8 ws)).toNat)))) != (0 : Int)) → ∀ (y117 : Bool), y117 = (y115 || y116) → (y117 = false → (eyeWC (bHk h8) (bWarps h8 ws) (rdA (bHk h8) (bWarps h8 ws) (bDraw ds (lI (bWarps h8 ws)).toNat)) (bHk h8) (bRows h8 rs)).length ≤ 1000 ∧ (weaveC (bHk h8) (bWarps h8 ws) (bHk h8) (bRows h8 rs)).length ≤ 1000) ∧ ∀ (y118 : Bool), y118 = (!(decide ((eyeWC (bHk h8) (bWarps h8 ws) (rdA (bHk h8) (bWarps h8 ws) (bDraw ds (lI (bWarps h8 ws)).toNat)) (bHk h8) (bRows h8 rs)) = (weaveC (bHk h8) (bWarps h8 ws) (bHk h8) (bRows h8 rs))))) → ∀ (y119 : Bool), y119 = (y117 || y118) → (y119 = true →
       (false = true ∧ (True))) ∧
      (y119 = false →
       ∀ (y120 : Bool), y120 = ((lI (rdW (bHk h8) (bWarps h8 ws) (bDraw ds (lI (bWarps h8 ws)).toNat))) == (0 : Int)) → (y120 = true →
        (True) ∧ (true = true ∧ (True))) ∧
       (y120 = false →
        (I64 wh) ∧ ((lI (rdW (bHk h8) (bWarps h8 ws) (bDraw ds (lI (bWarps h8 ws)).toNat))) ≠ 0) ∧ ∀ (y121 : Int), y121 = (Int.tmod wh (lI (rdW (bHk h8) (bWarps h8 ws) (bDraw ds (lI (bWarps h8 ws)).toNat)))) → (0 ≤ y121) ∧ (y121 < (List.length (rdW (bHk h8) (bWarps h8 ws) (bDraw ds (lI (bWarps h8 ws)).toNat)))) ∧ ∀ (y122 : Int), y122 = (gD (rdW (bHk h8) (bWarps h8 ws) (bDraw ds (lI (bWarps h8 ws)).toNat)) y121 0) → (0 ≤ y122) ∧ (y122 < (List.length (bDraw ds (lI (bWarps h8 ws)).toNat))) ∧ ∀ (y123 : Int), y123 = (gD (bDraw ds (lI (bWarps h8 ws)).toNat) y122 0) → ∀ (y124 : Bool), y124 = (decide (y123 < (0 : Int))) → (y124 = false → 0 ≤ y122) ∧ (y124 = false → y122 < (List.length (bDraw ds (lI (bWarps h8 ws)).toNat))) ∧ ∀ (y125 : Int), y125 = (gD (bDraw ds (lI (bWarps h8 ws)).toNat) y122 0) → (y124 = false → 0 ≤ y125) ∧ (y124 = false → y125 < (List.length (bWarps h8 ws))) ∧ ∀ (y126 : Int), y126 = (gD (bWarps h8 ws) y125 0) → (y124 = false → 0 ≤ y122) ∧ (y124 = false → y122 < (List.length (bWarps h8 ws))) ∧ ∀ (y127 : Int), y127 = (gD (bWarps h8 ws) y122 0) → ∀ (y128 : Bool), y128 = (y126 != y127) → ∀ (y129 : Bool), y129 = (y124 || y128) → (y129 = true →
         (True) ∧ (true = true ∧ (True))) ∧
        (y129 = false →
         ∃ (e11 : (List (Int × Bool)) × Int) (d110 : Int), (((lI (bWarps h8 ws)) = (lI (bWarps h8 ws)) ∧ True ∧ True ∧ y122 = e11.2 ∧ (0 : Int) = d110 ∧ True) ∧ (((bDraw ds (lI (bWarps h8 ws)).toNat) = (bDraw ds (lI (bWarps h8 ws)).toNat) ∧ false = false) ∧ (e7 = e11.1) ∧ True)) ∧
         LoopP (fun (d11 : Int) (q11 : (Int) → Prop) =>
          ∀ (y148 : Bool), y148 = (decide (d11 < (lI (bWarps h8 ws)))) → (y148 = true →
           ∀ (y149 : Bool), y149 = (d11 != e11.2) → (y149 = true → 0 ≤ d11) ∧ (y149 = true → d11 < (List.length (bDraw ds (lI (bWarps h8 ws)).toNat))) ∧ ∀ (y150 : Int), y150 = (gD (bDraw ds (lI (bWarps h8 ws)).toNat) d11 0) → (y149 = true → 0 ≤ e11.2) ∧ (y149 = true → e11.2 < (List.length (bDraw ds (lI (bWarps h8 ws)).toNat))) ∧ ∀ (y151 : Int), y151 = (gD (bDraw ds (lI (bWarps h8 ws)).toNat) e11.2 0) → ∀ (y152 : Bool), y152 = (y150 == y151) → ∀ (y153 : Bool), y153 = (y149 && y152) → ∀ (y154 : Bool), y154 = (gq.aget (.i .i64) e11.1 d11 false) → ∀ (y155 : Bool), y155 = (!y154) → ∀ (y156 : Bool), y156 = (y153 && y155) → (y156 = true →
            (True) ∧ (true = true ∧ (True))) ∧
           (y156 = false →
            (I64 (d11 + (1 : Int))) ∧ (∃ d12 : Int, (((lI (bWarps h8 ws)) = (lI (bWarps h8 ws)) ∧ True ∧ True ∧ e11.2 = e11.2 ∧ (d11 + (1 : Int)) = d12 ∧ True) ∧ (((bDraw ds (lI (bWarps h8 ws)).toNat) = (bDraw ds (lI (bWarps h8 ws)).toNat) ∧ false = false) ∧ (e11.1 = e11.1) ∧ True)) ∧ q11 d12))) ∧
          (y148 = false →
           (false = true ∧ (True)))) d110))))) d70)) d30)
def cx_law11_EyeRight : Cx := ⟨[(1000057, (.pair (.i .i64) .bo)), (1000098, (.pair (.i .i64) .bo))], [(31, s_law11_Board_harness), (32, s_law11_Board_design), (33, s_law11_Board_drawing), (13, s_law11_own), (14, s_law11_ints), (15, s_eye_Redraw), (35, s_law11_ours), (34, s_eye_Weave), (36, s_tie_Weave), (37, s_eye_Wrong), (38, s_law11_same), (12, s_law11_known)], 270, [], 0, [], [], [], [1, 2, 5, 6, 25, 27], true⟩
def lp_law11_EyeRight (h8 : Int) (ws : List Int) (rs : List Int) (ds : List Int) (wh : Int) : List (Nat × LoopAnn) := [(0, ⟨Unit, (List (Int × Bool)) × Int, [1, 5, 6, 7, 8, 9, 10, 12, 13], fun e x => [.val (.i .u8) wh, .box 5 0, .box 6 0, .val (.i .i64) (((List.length (bWarps h8 ws)) : Nat) : Int), .lst 33, .lst 39, .lst 309, .map 57, .val (.i .i64) x.2], fun e x => [(5, .slot 5, .cells [.val (.i .i64) (bHk h8), .lst 25] (some 24)), (25, .cell 5 1, .lst 3 (.i .i64) (bWarps h8 ws) false), (6, .slot 6, .cells [.val (.i .i64) (bHk h8), .lst 27] (some 27)), (27, .cell 6 1, .lst 3 (.i .i64) (bRows h8 rs) false), (33, .slot 8, .lst 3 (.i .i64) (bDraw ds (((List.length (bWarps h8 ws)) : Nat) : Int).toNat) false), (39, .slot 9, .lst 3 (.i .i64) (rdW (bHk h8) (bWarps h8 ws) (bDraw ds (((List.length (bWarps h8 ws)) : Nat) : Int).toNat)) (rdWz (bHk h8) (bWarps h8 ws) (bDraw ds (((List.length (bWarps h8 ws)) : Nat) : Int).toNat))), (309, .slot 10, .lst 3 (.i .i64) (rdA (bHk h8) (bWarps h8 ws) (bDraw ds (((List.length (bWarps h8 ws)) : Nat) : Int).toNat)) (rdAz (bHk h8) (bWarps h8 ws) (bDraw ds (((List.length (bWarps h8 ws)) : Nat) : Int).toNat))), (57, .slot 12, .map (.i .i64) .bo x.1)]⟩),
 (2, ⟨(List (Int × Bool)), (List (Int × Bool)) × Int, [1, 5, 6, 7, 8, 9, 10, 12, 14, 15], fun e x => [.val (.i .u8) wh, .box 5 0, .box 6 0, .val (.i .i64) (((List.length (bWarps h8 ws)) : Nat) : Int), .lst 33, .lst 39, .lst 309, .map 57, .map 98, .val (.i .i64) x.2], fun e x => [(5, .slot 5, .cells [.val (.i .i64) (bHk h8), .lst 25] (some 24)), (25, .cell 5 1, .lst 3 (.i .i64) (bWarps h8 ws) false), (6, .slot 6, .cells [.val (.i .i64) (bHk h8), .lst 27] (some 27)), (27, .cell 6 1, .lst 3 (.i .i64) (bRows h8 rs) false), (33, .slot 8, .lst 3 (.i .i64) (bDraw ds (((List.length (bWarps h8 ws)) : Nat) : Int).toNat) false), (39, .slot 9, .lst 3 (.i .i64) (rdW (bHk h8) (bWarps h8 ws) (bDraw ds (((List.length (bWarps h8 ws)) : Nat) : Int).toNat)) (rdWz (bHk h8) (bWarps h8 ws) (bDraw ds (((List.length (bWarps h8 ws)) : Nat) : Int).toNat))), (309, .slot 10, .lst 3 (.i .i64) (rdA (bHk h8) (bWarps h8 ws) (bDraw ds (((List.length (bWarps h8 ws)) : Nat) : Int).toNat)) (rdAz (bHk h8) (bWarps h8 ws) (bDraw ds (((List.length (bWarps h8 ws)) : Nat) : Int).toNat))), (57, .slot 12, .map (.i .i64) .bo e), (98, .slot 14, .map (.i .i64) .bo x.1)]⟩),
 (4, ⟨(List (Int × Bool)) × Int, Int, [7, 8, 12, 22, 23], fun e x => [.val (.i .i64) (((List.length (bWarps h8 ws)) : Nat) : Int), .lst 33, .map 57, .val (.i .i64) e.2, .val (.i .i64) x], fun e x => [(33, .slot 8, .lst 3 (.i .i64) (bDraw ds (((List.length (bWarps h8 ws)) : Nat) : Int).toNat) false), (57, .slot 12, .map (.i .i64) .bo e.1)]⟩)]
set_option maxRecDepth 100000 in
theorem vq_law11_EyeRight (d : (Int × List Int × List Int × List Int) × Int) : gwp (cx_law11_EyeRight) (lp_law11_EyeRight d.1.1 d.1.2.1 d.1.2.2.1 d.1.2.2.2 d.2) c6 0 (gend [.tmp 4] (res_law11_EyeRight d) (obs_law11_EyeRight d)) (gstart 270 (AL.can al_law11_EyeRight d)) = vc_law11_EyeRight d.1.1 d.1.2.1 d.1.2.2.1 d.1.2.2.2 d.2 := by kernel_rfl
abbrev Ok_law11_EyeRight : Prop := OkC Tryd.prog 6 s_law11_EyeRight
theorem mk_law11_EyeRight (h : ∀ (h8 : Int) (ws : List Int) (rs : List Int) (ds : List Int) (wh : Int), (bOk h8 ws rs ds ∧ 0 ≤ wh ∧ wh ≤ 255) → vc_law11_EyeRight h8 ws rs ds wh) : OkC Tryd.prog 6 s_law11_EyeRight :=
 okC_vc fun6 mixed (C := cx_law11_EyeRight) (V := fun (d : (Int × List Int × List Int × List Int) × Int) => vc_law11_EyeRight d.1.1 d.1.2.1 d.1.2.2.1 d.1.2.2.2 d.2) ⟨(.cons ok_law11_Board_harness (.cons ok_law11_Board_design (.cons ok_law11_Board_drawing (.cons ok_law11_own (.cons ok_law11_ints (.cons ok_eye_Redraw (.cons ok_law11_ours (.cons ok_eye_Weave (.cons ok_tie_Weave (.cons ok_eye_Wrong (.cons ok_law11_same (.cons ok_law11_known .nil)))))))))))), XsOk.nil, ItsOk.nil⟩ (vq_law11_EyeRight) fun d hp => h d.1.1 d.1.2.1 d.1.2.2.1 d.1.2.2.2 d.2 hp
end Go.Proofs.Tryd
set_option linter.unusedVariables false
namespace Go.Proofs.Tryd
open Go Go.V Go.Proofs
theorem bDraw_val {ds : List Int} {n : Nat} (hd : u8s ds) (hn : 1 ≤ n) : ∀ x ∈ bDraw ds n, -1 ≤ x ∧ x < n := fun x hx => by
 obtain ⟨k, hk, rfl⟩ := List.mem_iff_getElem.1 hx
 have hk' : k < n := by rw [bDraw_len] at hk; exact hk
 rw [bDraw_get ds hk']
 split
 ·rename_i hkd
  have hd' := hd _ (List.getElem_mem hkd)
  rw [getD_nat hkd]
  split
  ·omega
  ·split
   ·have h1 := Int.tmod_nonneg (n : Int) hd'.1
    have h2 := Int.tmod_lt_of_pos ds[k] (show (0 : Int) < n by omega)
    omega
   ·omega
 ·omega
theorem bWarps_len {h8 : Int} {ws : List Int} : 1 ≤ (bWarps h8 ws).length ∧ (bWarps h8 ws).length ≤ 24 := by
 have : (bWarps h8 ws).length = if ws = [] then 1 else min 24 ws.length := warpsN_len
 rw [this]
 split
 ·omega
 ·rename_i h
  have := List.length_pos_iff.2 h
  omega
end Go.Proofs.Tryd
set_option linter.unusedVariables false
namespace Go.Proofs.Tryd
open Go Go.V Go.Proofs
theorem ok_law11_EyeRight : Ok_law11_EyeRight := mk_law11_EyeRight fun h8 ws rs ds wh hb => by
 obtain ⟨hb, hw0, hw1⟩ := hb
 have hbt : bOk h8 ws rs ds = True := eq_true hb
 unfold vc_law11_EyeRight
 (try delta lI gD sT I64)
 rw [hbt]
 have hn := bWarps_len (h8 := h8) (ws := ws)
 obtain ⟨b1, b2, b3, b4, b5⟩ := board_facts hb
 have hlen := bDraw_len ds (bWarps h8 ws).length
 have hval := bDraw_val (n := (bWarps h8 ws).length) hb.2.2.2.2 hn.1
 have R := right_loom b1 b2 b3 b4 b5 hn.1 hn.2 hlen hval
 clear hbt b1 b2 b3 b4 b5 hlen hval hn
 have hl : bDraw ds (((bWarps h8 ws).length : Nat) : Int).toNat = bDraw ds (bWarps h8 ws).length := rfl
 generalize bDraw ds (((bWarps h8 ws).length : Nat) : Int).toNat = l at *
 subst hl
 generalize bDraw ds (bWarps h8 ws).length = l at *
 generalize bWarps h8 ws = lw at *
 generalize bRows h8 rs = rows at *
 generalize bHk h8 = hk at *
 generalize redrawW lw l = W at *
 generalize redrawA lw l = A at *
 obtain ⟨n1, n24, r8, len, val, ee, eA, eW, eC, cc, wc, wr, rW, rA, zW, zA, f, fW, fA⟩ := R
 obtain ⟨f1, f2, f3, f4, f5, f6, f7, f8⟩ := f
 rw [fW] at f1 f5 f6 f7 f8
 rw [fA] at f2 f3 f4 f5
 simp only [InK_i64, ee, eA, eW, eC, cc, wr, rW, rA, zW, zA, true_and, and_true, exists_eq_left', exists_const, ne_eq, Int.ofNat_lt, gt_iff_lt, ge_iff_le, false_implies, reduceCtorEq, and_self]
 have k1 : (((A.length : Nat) : Int) != ((lw.length : Nat) : Int)) = false := by rw [bne_eq_false_iff_eq]; omega
 have k2 : decide (lw.length < W.length) = false := by rw [decide_eq_false_iff_not]; omega
 simp only [k1, k2, true_and, decide_eq_true_eq, decide_eq_false_iff_not, bne_iff_ne, ne_eq, beq_eq_false_iff_ne, bne_eq_false_iff_eq, Bool.not_eq_true', forall_eq, false_implies, Bool.false_eq_true, Bool.or_false, Bool.false_or, Bool.not_true, implies_true, forall_const, decide_true, bne_self_eq_false]
 have ag : ∀ (F : List Int) (k : Int), gq.aget (.i .i64) (List.map (α := Int) (β := Int × Bool) (fun x => (x, true)) F) k false = decide (k ∈ F) := fun F k => aget_map
 refine ⟨⟨by omega, by omega⟩, by omega, by omega, ⟨by omega, by omega⟩, ([], 0), (by and_intros <;> first | rfl | trivial), ?_⟩
 refine ⟨fun d => ∃ i : Nat, i ≤ W.length ∧ d.2 = i ∧ d.1 = (W.take i).map fun x => (x, true), fun d => W.length - d.2.toNat, ⟨0, Nat.zero_le _, rfl, rfl⟩, ?_⟩
 rintro ⟨m, _⟩ ⟨i, hi, rfl, hm⟩
 dsimp only at hm ⊢
 refine ⟨fun hlt => ?_, fun hge => ?_⟩
 ·have hlt : i < W.length := by omega
  have hw := f7 _ (List.getElem_mem hlt)
  have c1 : (W[i] < 0) = False := eq_false (by omega)
  have c2 : ((lw.length : Int) ≤ W[i]) = False := eq_false (by omega)
  have c4 : (decide (0 < (i : Int)) && decide (W[i] ≤ W.getD ((i : Int) - 1).toNat 0)) = false := and_dec fun hp => by
   have e : ((i : Int) - 1).toNat = i - 1 := by omega
   rw [e, getD_nat (show i - 1 < W.length by omega)]
   have := List.pairwise_iff_getElem.1 f6 (i - 1) i (by omega) hlt (by omega)
   omega
  have hnin : W[i] ∉ W.take i := fun h => by
   obtain ⟨k, hk, hk2⟩ := List.mem_take_iff_getElem.1 h
   have := List.pairwise_iff_getElem.1 f6 k i (by omega) hlt (by omega)
   omega
  simp only [Int.toNat_natCast, getD_nat hlt, c1, c2, c4, true_and, Int.toNat_natCast, Int.ofNat_lt, false_implies, Bool.false_eq_true, Bool.or_self, forall_const, decide_false, not_false_eq_true]
  and_intros
  all_goals try (first | omega | (intros; omega))
  refine ⟨(aput (.i .i64) m W[i] true, (i : Int) + 1), ⟨rfl, rfl⟩, ⟨i + 1, by omega, by simp, ?_⟩, by dsimp only; omega⟩
  dsimp only
  rw [hm, aput_new hnin, take_succ_eq hlt]
 have hi : i = W.length := by omega
 subst hi
 rw [List.take_length] at hm
 subst hm
 refine ⟨W.map fun x => (x, true), ([], 0), (by and_intros <;> first | rfl | trivial), ?_⟩
 refine ⟨fun d => ∃ i : Nat, i ≤ lw.length ∧ d.2 = i ∧ d.1 = (A.take i).map fun x => (x, true), fun d => lw.length - d.2.toNat, ⟨0, Nat.zero_le _, rfl, rfl⟩, ?_⟩
 rintro ⟨m, _⟩ ⟨i, hi, rfl, hm⟩
 dsimp only at hm ⊢
 refine ⟨fun hlt => ?_, fun hge => ?_⟩
 ·have hlt : i < lw.length := by omega
  have hiA : i < A.length := by omega
  obtain ⟨a1, a2, a3⟩ := f3 i (by omega)
  rw [getD_nat hiA] at a1 a2 a3
  have c1 : (A[i] < 0) = False := eq_false (by omega)
  have c2 : ((lw.length : Int) ≤ A[i]) = False := eq_false (by omega)
  have hnin : A[i] ∉ A.take i := fun h => by
   obtain ⟨k, hk, hk2⟩ := List.mem_take_iff_getElem.1 h
   have := f4 k i (by omega) (by omega) (by omega)
   rw [getD_nat (show k < A.length by omega), getD_nat hiA] at this
   exact this hk2
  have c3 : decide (A[i] ∈ A.take i) = false := by rw [decide_eq_false_iff_not]; exact hnin
  have c5 : (!decide ((i : Int) ∈ W) && (A[i] != l.getD i 0)) = false := by
   by_cases h : (i : Int) ∈ W
   ·simp [h]
   ·have := f5 i (by omega) h
    rw [getD_nat hiA] at this
    rw [this]; simp
  have c6 : (lw.getD A[i].toNat 0 != lw.getD i 0) = false := by rw [bne_eq_false_iff_eq]; exact a3
  subst hm
  simp only [Int.toNat_natCast, getD_nat hiA, ag, c1, c2, c3, c5, c6, true_and, decide_eq_false_iff_not, Int.toNat_natCast, Int.ofNat_lt, false_implies, Bool.false_eq_true, Bool.or_self, forall_const, decide_false, not_false_eq_true]
  and_intros
  all_goals try (first | omega | (intros; omega))
  refine ⟨(aput (.i .i64) ((A.take i).map fun x => (x, true)) A[i] true, (i : Int) + 1), ⟨rfl, rfl⟩, ⟨i + 1, by omega, by simp, ?_⟩, by dsimp only; omega⟩
  dsimp only
  rw [aput_new hnin, take_succ_eq hiA]
 clear hm hge
 refine ⟨by omega, by omega, by omega, ⟨by omega, by omega, by omega⟩, by omega, by omega, ⟨by omega, by omega⟩, by omega, by omega, ⟨by omega, by omega⟩, fun _ => by omega, fun h => absurd rfl h, fun _ hne => ?_⟩
 have hW : 0 < W.length := by omega
 have t1 := Int.tmod_nonneg (W.length : Int) hw0
 have t2 := Int.tmod_lt_of_pos wh (show (0 : Int) < (W.length : Int) by omega)
 obtain ⟨t, ht⟩ := Int.eq_ofNat_of_zero_le t1
 rw [ht] at t2
 have htW : t < W.length := by omega
 have hkm := List.getElem_mem htW
 obtain ⟨k1', k2'⟩ := f7 _ hkm
 obtain ⟨k, hk⟩ := Int.eq_ofNat_of_zero_le k1'
 rw [hk] at hkm k1' k2'
 have hkl : k < l.length := by omega
 have hv := val _ (List.getElem_mem hkl)
 rw [← getD_nat (d := 0) hkl] at hv
 simp only [ht, Int.toNat_natCast, getD_nat htW, hk]
 and_intros
 all_goals try (first | omega | (intros; omega))
 intro hcond
 simp only [Bool.or_eq_false_iff, decide_eq_false_iff_not, bne_eq_false_iff_eq] at hcond
 obtain ⟨g1, g2⟩ := hcond
 refine ⟨(W.map fun x => (x, true), (k : Int)), 0, (by and_intros <;> first | rfl | trivial), ?_⟩
 refine LoopP.count lw.length (fun i => ∀ j : Nat, j < i → j ≠ k → l.getD j 0 = l.getD k 0 → (j : Int) ∈ W) (fun j hj => by omega) fun i hi hJ q hq => ?_
 dsimp only
 simp only [Int.toNat_natCast, ag]
 refine ⟨fun hlt => ⟨fun _ => by omega, fun _ => by omega, fun _ => by omega, fun _ => by omega, fun hc => ⟨by omega, hq (by omega) fun j hj hjk hl => ?_⟩⟩, fun hge => ?_⟩
 ·by_cases hji : j < i
  ·exact hJ j hji hjk hl
  ·have : j = i := by omega
   subst this
   by_cases hm : (j : Int) ∈ W
   ·exact hm
   ·exfalso
    have e1 : ((j : Int) != (k : Int)) = true := by rw [bne_iff_ne]; omega
    rw [e1, hl] at hc
    simp [hm] at hc
 ·obtain ⟨i0, i1, i2, i3, i4⟩ := f8 k hkl hkm (by omega) g2
  exact i4 (hJ i0 (by omega) i2 i3)
end Go.Proofs.Tryd
set_option linter.unusedVariables false
namespace Go.Proofs.Tryd
open Go Go.V Go.Proofs
theorem u8s_of {l : List Int} (h : KWf (.list (.i .u8)) l) : u8s l := fun x hx => (InK_u8 x).1 (h.2 x hx)
theorem u16s_of {l : List Int} (h : KWf (.list (.i .u16)) l) : u16s l := fun x hx => (InK_u16 x).1 (h.2 x hx)
theorem bOk_of {x : Int × List Int × List Int × List Int} (h : KWf (.pair (.i .u8) (.pair (.list (.i .u8)) (.pair (.list (.i .u16)) (.list (.i .u8))))) x) : bOk x.1 x.2.1 x.2.2.1 x.2.2.2 := by
 obtain ⟨h1, h2, h3, h4⟩ := h
 have h1 := (InK_u8 x.1).1 h1
 exact ⟨h1.1, h1.2, u8s_of h2, u16s_of h3, u8s_of h4⟩
theorem rightPre_of {x : (Int × List Int × List Int × List Int) × Int} (h : AWf [.pair (.i .u8) (.pair (.list (.i .u8)) (.pair (.list (.i .u16)) (.list (.i .u8)))), .i .u8] x) : bOk x.1.1 x.1.2.1 x.1.2.2.1 x.1.2.2.2 ∧ 0 ≤ x.2 ∧ x.2 ≤ 255 := by
 obtain ⟨h1, h3⟩ := h
 have h3 := (InK_u8 x.2).1 h3
 exact ⟨bOk_of h1, h3.1, h3.2⟩
end Go.Proofs.Tryd