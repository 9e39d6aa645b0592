/- A framework for walks, contracts of functions, and their proofs: part 5. -/
import Derived.ProofKit
import Derived.OpenShut
import Derived.LaidMore
import Derived.Carry
import Derived.Lib.SmallJoins
import Derived.Deep.Slices
import Derived.Test.YtoagdbabgiekgaaDoorS4
set_option linter.unusedVariables false
namespace Go.Proofs.Tryd
open Go Go.V Go.Proofs
def cx_slices_Backward_eye_thread_eye_thread : Cx := ⟨[], [], 4, [], 0, [], [], [], [], false⟩
def x_slices_Backward_eye_thread_eye_thread : XSp := inlX cx_slices_Backward_eye_thread_eye_thread (fun _ => []) c77 [.tmp 2] 4
theorem okx_slices_Backward_eye_thread_eye_thread : XOk Tryd.prog 77 x_slices_Backward_eye_thread_eye_thread := inlX_ok fun77 mixed (C := cx_slices_Backward_eye_thread_eye_thread) ⟨.nil, XsOk.nil, ItsOk.nil⟩ _
def al_eye_longest : AL ((List (Int × Int)) × (((Int × Int) × (Int × Int) → Prop) × ((Int × Int) × (Int × Int) → Bool))) := (.cons (.k (.list (.pair (.i .i64) (.i .i64)))) (.one (.fn [(.pair (.i .i64) (.i .i64)), (.pair (.i .i64) (.i .i64))] .bo)))
def pre_eye_longest (d : (List (Int × Int)) × (((Int × Int) × (Int × Int) → Prop) × ((Int × Int) × (Int × Int) → Bool))) : Prop := d.1.length ≤ 1000 ∧ ∀ x ∈ d.1, ∀ y ∈ d.1, d.2.1 (x, y)
def res_eye_longest (d : (List (Int × Int)) × (((Int × Int) × (Int × Int) → Prop) × ((Int × Int) × (Int × Int) → Bool))) : SV := .lst 0
def obs_eye_longest (d : (List (Int × Int)) × (((Int × Int) × (Int × Int) → Prop) × ((Int × Int) × (Int × Int) → Bool))) : List OB := [.lst 3 (.i .i64) (lonL (fun x y => d.2.2 (x, y)) d.1) false]
def s_eye_longest : CSp := mkSp al_eye_longest pre_eye_longest res_eye_longest obs_eye_longest
def vc_eye_longest (l : List (Int × Int)) (p : ((Int × Int) × (Int × Int) → Prop) × ((Int × Int) × (Int × Int) → Bool)) : Prop :=
  (0 ≤ (((List.length l) : Nat) : Int)) ∧ ((((List.length l) : Nat) : Int) ≤ (((List.length l) : Nat) : Int)) ∧ ((((List.length l) : Nat) : Int) * 8 ≤ 70368744177664) ∧ ((((List.length l) : Nat) : Int) ≤ 70368744177664) ∧ ∀ w1 : List Value, w1 = w1 ∧ (List.length l < 4611686018427387904) ∧ ∃ (e4 : Unit) (d40 : (List Int)), ((True ∧ True ∧ True ∧ True) ∧ ((l = l ∧ (([] : List SV) = [])) ∧ ((SV.pf [(.pair (.i .i64) (.i .i64)), (.pair (.i .i64) (.i .i64))] .bo p.1 p.2 = SV.pf [(.pair (.i .i64) (.i .i64)), (.pair (.i .i64) (.i .i64))] .bo p.1 p.2) ∧ (([] : List SV) = [])) ∧ (True ∧ (([] : List SV) = [])) ∧ ((List.replicate (Int.toNat (((List.length l) : Nat) : Int)) 0) = d40 ∧ false = false) ∧ True)) ∧
  RangeP (List.length l) (fun (k4 : Nat) (d4 : (List Int)) (q4 : ((List Int)) → Prop) => ∀ w4 : List Value,
    (0 ≤ (((List.length l : Nat) : Int) - 1 - (k4 : Int))) ∧ ((((List.length l : Nat) : Int) - 1 - (k4 : Int)) < (List.length d4)) ∧ (InK .i64 ((((List.length l : Nat) : Int) - 1 - (k4 : Int)) + (1 : Int))) ∧ ∃ (e7 : Int × Int × Int × (List Value)) (d70 : (List Int) × Int), ((True ∧ True ∧ True ∧ (((List.length l : Nat) : Int) - 1 - (k4 : Int)) = e7.1 ∧ True ∧ ((((List.length l : Nat) : Int) - 1 - (k4 : Int)) + (1 : Int)) = d70.2 ∧ True) ∧ ((l = l ∧ (([] : List SV) = [])) ∧ ((SV.pf [(.pair (.i .i64) (.i .i64)), (.pair (.i .i64) (.i .i64))] .bo p.1 p.2 = SV.pf [(.pair (.i .i64) (.i .i64)), (.pair (.i .i64) (.i .i64))] .bo p.1 p.2) ∧ (([] : List SV) = [])) ∧ (True ∧ (([] : List SV) = [])) ∧ ((List.set d4 (Int.toNat (((List.length l : Nat) : Int) - 1 - (k4 : Int))) (1 : Int)) = d70.1 ∧ false = false) ∧ ((List.getD l (List.length l - 1 - k4) (0, 0)).1 = e7.2.1 ∧ (List.getD l (List.length l - 1 - k4) (0, 0)).2 = e7.2.2.1 ∧ (([] : List SV) = [])) ∧ (e7.2.2.2 = w4 ∧ (True ∧ True ∧ True ∧ True ∧ True ∧ True ∧ True ∧ True ∧ True ∧ True ∧ True ∧ True ∧ True ∧ True ∧ True ∧ True ∧ True ∧ True ∧ True ∧ True ∧ True ∧ True ∧ True ∧ True ∧ True ∧ True ∧ True ∧ True ∧ True ∧ True ∧ True ∧ True ∧ True ∧ True ∧ True ∧ True ∧ True ∧ True ∧ True ∧ True ∧ True ∧ True ∧ True ∧ True ∧ True ∧ True ∧ True ∧ True ∧ (([] : List SV) = []))) ∧ True)) ∧
    LoopP (fun (d7 : (List Int) × Int) (q7 : ((List Int) × Int) → Prop) =>
      ((decide (d7.2 < (((List.length l) : Nat) : Int))) = true →
        (0 ≤ d7.2) ∧ (d7.2 < (List.length l)) ∧ (p.1 ((e7.2.1, e7.2.2.1), ((List.getD l (Int.toNat d7.2) (0, 0)).1, (List.getD l (Int.toNat d7.2) (0, 0)).2))) ∧ ((p.2 ((e7.2.1, e7.2.2.1), ((List.getD l (Int.toNat d7.2) (0, 0)).1, (List.getD l (Int.toNat d7.2) (0, 0)).2))) = true →
          (0 ≤ e7.1) ∧ (e7.1 < (List.length d7.1)) ∧ (0 ≤ d7.2) ∧ (d7.2 < (List.length d7.1)) ∧ (InK .i64 ((List.getD d7.1 (Int.toNat d7.2) 0) + (1 : Int))) ∧ (0 ≤ e7.1) ∧ (e7.1 < (List.length d7.1)) ∧ (InK .i64 (d7.2 + (1 : Int))) ∧ (∃ d8 : (List Int) × Int, ((True ∧ True ∧ True ∧ e7.1 = e7.1 ∧ True ∧ (d7.2 + (1 : Int)) = d8.2 ∧ True) ∧ ((l = l ∧ (([] : List SV) = [])) ∧ ((SV.pf [(.pair (.i .i64) (.i .i64)), (.pair (.i .i64) (.i .i64))] .bo p.1 p.2 = SV.pf [(.pair (.i .i64) (.i .i64)), (.pair (.i .i64) (.i .i64))] .bo p.1 p.2) ∧ (([] : List SV) = [])) ∧ (True ∧ (([] : List SV) = [])) ∧ ((List.set d7.1 (Int.toNat e7.1) (gmax (List.getD d7.1 (Int.toNat e7.1) 0) ((List.getD d7.1 (Int.toNat d7.2) 0) + (1 : Int)))) = d8.1 ∧ false = false) ∧ (e7.2.1 = e7.2.1 ∧ e7.2.2.1 = e7.2.2.1 ∧ (([] : List SV) = [])) ∧ (e7.2.2.2 = e7.2.2.2 ∧ (True ∧ True ∧ True ∧ True ∧ True ∧ True ∧ True ∧ True ∧ True ∧ True ∧ True ∧ True ∧ True ∧ True ∧ True ∧ True ∧ True ∧ True ∧ True ∧ True ∧ True ∧ True ∧ True ∧ True ∧ True ∧ True ∧ True ∧ True ∧ True ∧ True ∧ True ∧ True ∧ True ∧ True ∧ True ∧ True ∧ True ∧ True ∧ True ∧ True ∧ True ∧ True ∧ True ∧ True ∧ True ∧ True ∧ True ∧ True ∧ (([] : List SV) = []))) ∧ True)) ∧ q7 d8)) ∧
        ((p.2 ((e7.2.1, e7.2.2.1), ((List.getD l (Int.toNat d7.2) (0, 0)).1, (List.getD l (Int.toNat d7.2) (0, 0)).2))) = false →
          (InK .i64 (d7.2 + (1 : Int))) ∧ (∃ d9 : (List Int) × Int, ((True ∧ True ∧ True ∧ e7.1 = e7.1 ∧ True ∧ (d7.2 + (1 : Int)) = d9.2 ∧ True) ∧ ((l = l ∧ (([] : List SV) = [])) ∧ ((SV.pf [(.pair (.i .i64) (.i .i64)), (.pair (.i .i64) (.i .i64))] .bo p.1 p.2 = SV.pf [(.pair (.i .i64) (.i .i64)), (.pair (.i .i64) (.i .i64))] .bo p.1 p.2) ∧ (([] : List SV) = [])) ∧ (True ∧ (([] : List SV) = [])) ∧ (d7.1 = d9.1 ∧ false = false) ∧ (e7.2.1 = e7.2.1 ∧ e7.2.2.1 = e7.2.2.1 ∧ (([] : List SV) = [])) ∧ (e7.2.2.2 = e7.2.2.2 ∧ (True ∧ True ∧ True ∧ True ∧ True ∧ True ∧ True ∧ True ∧ True ∧ True ∧ True ∧ True ∧ True ∧ True ∧ True ∧ True ∧ True ∧ True ∧ True ∧ True ∧ True ∧ True ∧ True ∧ True ∧ True ∧ True ∧ True ∧ True ∧ True ∧ True ∧ True ∧ True ∧ True ∧ True ∧ True ∧ True ∧ True ∧ True ∧ True ∧ True ∧ True ∧ True ∧ True ∧ True ∧ True ∧ True ∧ True ∧ True ∧ (([] : List SV) = []))) ∧ True)) ∧ q7 d9))) ∧
      ((decide (d7.2 < (((List.length l) : Nat) : Int))) = false →
        e7.2.2.2 = w4 ∧ (∃ d10 : (List Int), ((True ∧ True ∧ True ∧ True) ∧ ((l = l ∧ (([] : List SV) = [])) ∧ ((SV.pf [(.pair (.i .i64) (.i .i64)), (.pair (.i .i64) (.i .i64))] .bo p.1 p.2 = SV.pf [(.pair (.i .i64) (.i .i64)), (.pair (.i .i64) (.i .i64))] .bo p.1 p.2) ∧ (([] : List SV) = [])) ∧ (True ∧ (([] : List SV) = [])) ∧ (d7.1 = d10 ∧ false = false) ∧ True)) ∧ q4 d10))) d70)
  (fun (d11 : (List Int)) =>
    (True ∧ ((d11 = (lonL (fun x y => p.2 (x, y)) l) ∧ false = false) ∧ True))) d40
def cx_eye_longest : Cx := ⟨[(3, (.i .i64))], [], 48, [], 0, [(77, x_slices_Backward_eye_thread_eye_thread)], [(93, bwIt (.pair (.i .i64) (.i .i64)))], [], [], false⟩
def lp_eye_longest (l : List (Int × Int)) (p : ((Int × Int) × (Int × Int) → Prop) × ((Int × Int) × (Int × Int) → Bool)) : List (Nat × LoopAnn) := [(0, ⟨Unit, (List Int), [2, 3, 5], fun e x => [.box 2 0, .box 3 0, .box 5 0], fun e x => [(2, .slot 2, .cells [.val (.list (.pair (.i .i64) (.i .i64))) l]), (3, .slot 3, .cells [.pf [(.pair (.i .i64) (.i .i64)), (.pair (.i .i64) (.i .i64))] .bo p.1 p.2]), (5, .slot 5, .cells [.lst 11]), (11, .cell 5 0, .lst 3 (.i .i64) x false)]⟩),
  (2, ⟨Int × Int × Int × (List Value), (List Int) × Int, [2, 3, 5, 6, 7, 8], fun e x => [.box 2 0, .box 3 0, .box 5 0, .val (.i .i64) e.1, .box 7 0, .val (.i .i64) x.2], fun e x => [(2, .slot 2, .cells [.val (.list (.pair (.i .i64) (.i .i64))) l]), (3, .slot 3, .cells [.pf [(.pair (.i .i64) (.i .i64)), (.pair (.i .i64) (.i .i64))] .bo p.1 p.2]), (5, .slot 5, .cells [.lst 11]), (11, .cell 5 0, .lst 3 (.i .i64) x.1 false), (7, .slot 7, .cells [.val (.i .i64) e.2.1, .val (.i .i64) e.2.2.1]), (2000000, .key 2000000, .stk [.any, .any, .box 2 0, .box 3 0, .any, .box 5 0, .any, .any, .any, .any, .any, .any, .any, .any, .any, .any, .any, .any, .any, .any, .any, .any, .any, .any, .any, .any, .any, .any, .any, .any, .any, .any, .any, .any, .any, .any, .any, .any, .any, .any, .any, .any, .any, .any, .any, .any, .any, .any] e.2.2.2)]⟩)]
set_option maxRecDepth 100000 in
theorem vq_eye_longest (d : (List (Int × Int)) × (((Int × Int) × (Int × Int) → Prop) × ((Int × Int) × (Int × Int) → Bool))) : gwp (cx_eye_longest) (lp_eye_longest d.1 d.2) c56 0 (gend [.tmp 4] (res_eye_longest d) (obs_eye_longest d)) (gstart 48 (AL.can al_eye_longest d)) = vc_eye_longest d.1 d.2 := by kernel_rfl
abbrev Ok_eye_longest : Prop := OkC Tryd.prog 56 s_eye_longest
theorem mk_eye_longest (h : ∀ (l : List (Int × Int)) (p : ((Int × Int) × (Int × Int) → Prop) × ((Int × Int) × (Int × Int) → Bool)), (l.length ≤ 1000 ∧ ∀ x ∈ l, ∀ y ∈ l, p.1 (x, y)) → vc_eye_longest l p) : OkC Tryd.prog 56 s_eye_longest :=
  okC_vc fun56 mixed (C := cx_eye_longest) (V := fun (d : (List (Int × Int)) × (((Int × Int) × (Int × Int) → Prop) × ((Int × Int) × (Int × Int) → Bool))) => vc_eye_longest d.1 d.2) ⟨.nil, (XsOk.cons okx_slices_Backward_eye_thread_eye_thread XsOk.nil), (ItsOk.cons (bw_ok funbw93 mixed) ItsOk.nil)⟩ (vq_eye_longest) fun d hp => h d.1 d.2 hp
theorem ok_eye_longest : Ok_eye_longest := mk_eye_longest fun l p h => by
  obtain ⟨hl, hp⟩ := h
  let R := fun x y => p.2 (x, y)
  have hlen : (lonL R l).length = l.length := lonL_length l
  simp only [vc_eye_longest, true_and, and_true, exists_eq_left', exists_const, decide_eq_true_eq, decide_eq_false_iff_not, Int.toNat_natCast, InK_i64, pair_eta]
  refine ⟨by omega, by omega, by omega, by omega, fun _ => ⟨by omega, ?_⟩⟩
  refine ⟨fun j d => d.length = l.length ∧ ∀ q : Nat, l.length - j ≤ q → q < l.length → d.getD q 0 = (lonL R l).getD q 0, ⟨by simp, fun q h1 h2 => by omega⟩, ?_, ?_⟩
  · rintro j d hj ⟨hd, hq⟩
    have hcast : ((l.length : Int) - 1 - (j : Int)) = ((l.length - 1 - j : Nat) : Int) := by omega
    have hi : l.length - 1 - j < l.length := by omega
    rw [hcast]
    generalize hI : l.length - 1 - j = i at *
    have hR : ∀ k, i < k → k < l.length → (lonL R l).getD k 0 = ((best R (l.getD k (0, 0)) (l.drop (k + 1)) + 1 : Nat) : Int) := fun k _ hk => by rw [lonL_get hk, getD_nat hk]
    have hiL : (lonL R l).getD i 0 = ((best R (l.getD i (0, 0)) (l.drop (i + 1)) + 1 : Nat) : Int) := by rw [lonL_get hi, getD_nat hi]
    intro w4
    simp only [Int.toNat_natCast]
    refine ⟨by omega, by omega, by omega, ((i : Int), (l.getD i (0, 0)).1, (l.getD i (0, 0)).2, w4), (d.set i 1, (i : Int) + 1), ⟨by simp, by simp⟩, ?_⟩
    simp only [Int.toNat_natCast, pair_eta]
    refine ⟨fun x => ∃ k : Nat, i + 1 ≤ k ∧ k ≤ l.length ∧ x.2 = k ∧ x.1.length = l.length ∧ (∀ q : Nat, i < q → q < l.length → x.1.getD q 0 = (lonL R l).getD q 0) ∧ 1 ≤ x.1.getD i 0 ∧ gmax (x.1.getD i 0) ((best R (l.getD i (0, 0)) (l.drop k) : Nat) + 1) = (lonL R l).getD i 0, fun x => l.length - x.2.toNat, ⟨i + 1, by omega, by omega, by simp, by simp [hd], ?_, ?_, ?_⟩, ?_⟩
    · intro q h1 h2
      have : (d.set i 1).getD q 0 = d.getD q 0 := by simp only [List.getD_eq_getElem?_getD, List.getElem?_set_ne (show i ≠ q by omega)]
      rw [this]; exact hq q (by omega) h2
    · simp [hd, hi]
    · rw [hiL]; simp only [List.getD_eq_getElem?_getD, List.getElem?_set, hd, hi, if_true, Option.getD_some]
      unfold gmax; split <;> omega
    · rintro ⟨x, _⟩ ⟨k, hk1, hk2, rfl, hx, hxq, hx1, hxm⟩
      dsimp only at hx hxq hx1 hxm ⊢
      simp only [Int.toNat_natCast]
      refine ⟨fun hlt => ?_, fun hge => ?_⟩
      · have hlt : k < l.length := by omega
        have hdrop : l.drop k = l.getD k (0, 0) :: l.drop (k + 1) := by rw [List.drop_eq_getElem_cons hlt, getD_nat hlt]
        have hkq := hxq k (by omega) hlt
        have hkb := hR k (by omega) hlt
        have hb1 := best_len (R := R) (l := l.drop (k + 1)) (a := l.getD k (0, 0))
        have hb2 : (l.drop (k + 1)).length ≤ 1000 := by simp; omega
        rw [hdrop] at hxm
        refine ⟨by omega, by omega, ?_, fun hf => ?_, fun hf => ?_⟩
        · rw [getD_nat hi, getD_nat hlt]; exact hp _ (List.getElem_mem hi) _ (List.getElem_mem hlt)
        · simp only [best, show R (l.getD i (0, 0)) (l.getD k (0, 0)) = true from hf, if_true] at hxm
          have hnew : (x.set i (gmax (x.getD i 0) (x.getD k 0 + 1))).getD i 0 = gmax (x.getD i 0) (x.getD k 0 + 1) := by simp [hx, hi]
          refine ⟨by omega, by omega, by omega, by omega, by omega, by omega, by omega, by omega, (x.set i (gmax (x.getD i 0) (x.getD k 0 + 1)), (k : Int) + 1), ⟨rfl, rfl⟩, ⟨k + 1, by omega, by omega, by simp, by simp [hx], fun q h1 h2 => ?_, ?_, ?_⟩, by simp; omega⟩
          · have : (x.set i (gmax (x.getD i 0) (x.getD k 0 + 1))).getD q 0 = x.getD q 0 := by simp only [List.getD_eq_getElem?_getD, List.getElem?_set_ne (show i ≠ q by omega)]
            rw [this]; exact hxq q h1 h2
          · rw [hnew]; unfold gmax; split <;> omega
          · rw [hnew, ← hxm, hkq, hkb]
            generalize best R (l.getD k (0, 0)) (l.drop (k + 1)) = A
            generalize best R (l.getD i (0, 0)) (l.drop (k + 1)) = B
            generalize x.getD i 0 = X
            unfold gmax
            repeat' split
            all_goals omega
        · simp only [best] at hxm
          rw [if_neg (by rw [show R (l.getD i (0, 0)) (l.getD k (0, 0)) = false from hf]; simp)] at hxm
          refine ⟨by omega, (x, (k : Int) + 1), ⟨rfl, rfl⟩, ⟨k + 1, by omega, by omega, by simp, hx, hxq, hx1, hxm⟩, by simp; omega⟩
      · have : k = l.length := by omega
        subst this
        refine ⟨trivial, hx, fun q h1 h2 => ?_⟩
        by_cases hqi : q = i
        · subst hqi
          rw [← hxm]; simp only [List.drop_length, best]; unfold gmax; split <;> omega
        · exact hxq q (by omega) h2
  · rintro d ⟨hd, hq⟩
    apply List.ext_getElem (by rw [hd, hlen])
    intro q h1 h2
    have := hq q (by omega) (by omega)
    rw [getD_nat h1, getD_nat h2] at this
    exact this
def al_eye_Crossings : AL (List Int) := (.one (.k (.list (.i .i64))))
def pre_eye_Crossings (d : List Int) : Prop := d.length ≤ 110
def res_eye_Crossings (d : List Int) : SV := .tup [.val (.i .i64) (if aloneErr d = 0 then crossingsI d else 0), .val (.i .i64) (aloneErr d)]
def obs_eye_Crossings (d : List Int) : List OB := []
def s_eye_Crossings : CSp := mkSp al_eye_Crossings pre_eye_Crossings res_eye_Crossings obs_eye_Crossings
def vc_eye_Crossings (l : List Int) : Prop :=
  (l.length ≤ 1000000) ∧ (((aloneErr l) != (0 : Int)) = true →
    (((0 : Int) = (if aloneErr l = 0 then crossingsI l else 0) ∧ (aloneErr l) = aloneErr l ∧ (([] : List SV) = [])) ∧ (True))) ∧
  (((aloneErr l) != (0 : Int)) = false →
    (l.length ≤ 1000000) ∧ ∃ (e3 : Unit) (d30 : Int × Int), (((0 : Int) = d30.1 ∧ True ∧ True ∧ (((List.length (thr l)) : Nat) : Int) = (((List.length (thr l)) : Nat) : Int) ∧ (0 : Int) = d30.2 ∧ True) ∧ (((thr l) = (thr l) ∧ (thr l).isEmpty = (List.isEmpty (thr l))) ∧ True)) ∧
    LoopP (fun (d3 : Int × Int) (q3 : (Int × Int) → Prop) =>
      ((decide (d3.2 < (((List.length (thr l)) : Nat) : Int))) = true →
        (0 ≤ d3.2) ∧ (d3.2 < (List.length (thr l))) ∧ (0 ≤ (0 : Int)) ∧ ((0 : Int) ≤ d3.2) ∧ (d3.2 ≤ (List.length (thr l))) ∧ ∃ (e6 : Int × Int × Int × Nat × Int) (d60 : Int × Int), ((d3.1 = d60.1 ∧ True ∧ True ∧ True ∧ (((List.length (thr l)) : Nat) : Int) = (((List.length (thr l)) : Nat) : Int) ∧ d3.2 = e6.2.2.1 ∧ ((Int.toNat (0 : Int)) = (Int.toNat (0 : Int)) ∧ (Int.toNat (d3.2 - (0 : Int))) = e6.2.2.2.1 ∧ 2 = 2) ∧ (((Int.toNat (d3.2 - (0 : Int))) : Nat) : Int) = e6.2.2.2.2 ∧ (0 : Int) = d60.2 ∧ True) ∧ (((thr l) = (thr l) ∧ (List.isEmpty (thr l)) = (List.isEmpty (thr l))) ∧ ((List.getD (thr l) (Int.toNat d3.2) (0, 0)).1 = e6.1 ∧ (List.getD (thr l) (Int.toNat d3.2) (0, 0)).2 = e6.2.1 ∧ (([] : List SV) = [])) ∧ True)) ∧
        LoopP (fun (d6 : Int × Int) (q6 : (Int × Int) → Prop) =>
          ((decide (d6.2 < e6.2.2.2.2)) = true →
            (0 ≤ d6.2) ∧ (d6.2 < e6.2.2.2.1) ∧ (True) ∧ ((decide (((List.getD (thr l) (Int.toNat ((Int.toNat (0 : Int)) + d6.2)) (0, 0)).2) ≥ e6.2.1)) = true →
              (InK .i64 (d6.1 + (1 : Int))) ∧ (InK .i64 (d6.2 + (1 : Int))) ∧ (∃ d7 : Int × Int, (((d6.1 + (1 : Int)) = d7.1 ∧ True ∧ True ∧ True ∧ (((List.length (thr l)) : Nat) : Int) = (((List.length (thr l)) : Nat) : Int) ∧ e6.2.2.1 = e6.2.2.1 ∧ ((Int.toNat (0 : Int)) = (Int.toNat (0 : Int)) ∧ e6.2.2.2.1 = e6.2.2.2.1 ∧ 2 = 2) ∧ e6.2.2.2.2 = e6.2.2.2.2 ∧ (d6.2 + (1 : Int)) = d7.2 ∧ True) ∧ (((thr l) = (thr l) ∧ (List.isEmpty (thr l)) = (List.isEmpty (thr l))) ∧ (e6.1 = e6.1 ∧ e6.2.1 = e6.2.1 ∧ (([] : List SV) = [])) ∧ True)) ∧ q6 d7)) ∧
            ((decide (((List.getD (thr l) (Int.toNat ((Int.toNat (0 : Int)) + d6.2)) (0, 0)).2) ≥ e6.2.1)) = false →
              (InK .i64 (d6.2 + (1 : Int))) ∧ (∃ d8 : Int × Int, ((d6.1 = d8.1 ∧ True ∧ True ∧ True ∧ (((List.length (thr l)) : Nat) : Int) = (((List.length (thr l)) : Nat) : Int) ∧ e6.2.2.1 = e6.2.2.1 ∧ ((Int.toNat (0 : Int)) = (Int.toNat (0 : Int)) ∧ e6.2.2.2.1 = e6.2.2.2.1 ∧ 2 = 2) ∧ e6.2.2.2.2 = e6.2.2.2.2 ∧ (d6.2 + (1 : Int)) = d8.2 ∧ True) ∧ (((thr l) = (thr l) ∧ (List.isEmpty (thr l)) = (List.isEmpty (thr l))) ∧ (e6.1 = e6.1 ∧ e6.2.1 = e6.2.1 ∧ (([] : List SV) = [])) ∧ True)) ∧ q6 d8))) ∧
          ((decide (d6.2 < e6.2.2.2.2)) = false →
            (InK .i64 (e6.2.2.1 + (1 : Int))) ∧ (∃ d9 : Int × Int, ((d6.1 = d9.1 ∧ True ∧ True ∧ (((List.length (thr l)) : Nat) : Int) = (((List.length (thr l)) : Nat) : Int) ∧ (e6.2.2.1 + (1 : Int)) = d9.2 ∧ True) ∧ (((thr l) = (thr l) ∧ (List.isEmpty (thr l)) = (List.isEmpty (thr l))) ∧ True)) ∧ q3 d9))) d60) ∧
      ((decide (d3.2 < (((List.length (thr l)) : Nat) : Int))) = false →
        ((d3.1 = (if aloneErr l = 0 then crossingsI l else 0) ∧ (0 : Int) = aloneErr l ∧ (([] : List SV) = [])) ∧ (True)))) d30)
def cx_eye_Crossings : Cx := ⟨[], [(52, s_eye_checkDrawing), (53, s_eye_threads), (54, s_eye_cross)], 40, [], 0, [], [], [], [], false⟩
def lp_eye_Crossings (l : List Int) : List (Nat × LoopAnn) := [(0, ⟨Unit, Int × Int, [2, 5, 17, 18, 19], fun e x => [.val (.i .i64) x.1, .lst 16, .lst 16, .val (.i .i64) (((List.length (thr l)) : Nat) : Int), .val (.i .i64) x.2], fun e x => [(16, .slot 5, .lst 98 (.pair (.i .i64) (.i .i64)) (thr l) (List.isEmpty (thr l)))]⟩),
  (2, ⟨Int × Int × Int × Nat × Int, Int × Int, [2, 5, 7, 17, 18, 19, 26, 27, 28], fun e x => [.val (.i .i64) x.1, .lst 16, .box 7 0, .lst 16, .val (.i .i64) (((List.length (thr l)) : Nat) : Int), .val (.i .i64) e.2.2.1, .sub 16 (Int.toNat (0 : Int)) e.2.2.2.1 2, .val (.i .i64) e.2.2.2.2, .val (.i .i64) x.2], fun e x => [(16, .slot 5, .lst 98 (.pair (.i .i64) (.i .i64)) (thr l) (List.isEmpty (thr l))), (7, .slot 7, .cells [.val (.i .i64) e.1, .val (.i .i64) e.2.1])]⟩)]
set_option maxRecDepth 100000 in
theorem vq_eye_Crossings (d : List Int) : gwp (cx_eye_Crossings) (lp_eye_Crossings d) c22 0 (gend [.tmp 2, .tmp 3] (res_eye_Crossings d) (obs_eye_Crossings d)) (gstart 40 (AL.can al_eye_Crossings d)) = vc_eye_Crossings d := by kernel_rfl
abbrev Ok_eye_Crossings : Prop := OkC Tryd.prog 22 s_eye_Crossings
theorem mk_eye_Crossings (h : ∀ (l : List Int), (l.length ≤ 110) → vc_eye_Crossings l) : OkC Tryd.prog 22 s_eye_Crossings :=
  okC_vc fun22 mixed (C := cx_eye_Crossings) (V := fun (d : List Int) => vc_eye_Crossings d) ⟨(.cons ok_eye_checkDrawing (.cons ok_eye_threads (.cons ok_eye_cross .nil))), XsOk.nil, ItsOk.nil⟩ (vq_eye_Crossings) fun d hp => h d hp
theorem ok_eye_Crossings : Ok_eye_Crossings := mk_eye_Crossings fun l hl => by
  simp only [vc_eye_Crossings, true_and, and_true, exists_const, decide_eq_true_eq, decide_eq_false_iff_not, bne_iff_ne, ne_eq, bne_eq_false_iff_eq, ge_iff_le, InK_i64]
  refine ⟨by omega, fun he => by simp [he], fun he => ⟨by omega, ?_⟩⟩
  obtain ⟨h96, hval⟩ := aloneErr_zero he
  have hT := thr_len l
  have hc := crossings_eq hval
  simp only [he, if_true, and_true]
  generalize thr l = T at *
  have hb := pairs_le crossR T
  have hb2 : T.length * T.length ≤ 110 * 110 := Nat.mul_le_mul (by omega) (by omega)
  refine ⟨(0, 0), ⟨rfl, rfl⟩, LoopP.count2 (X := Int) T.length (fun k d => d = (pairs crossR (T.take k) : Nat)) rfl fun k d hk hJ q hq => ?_⟩
  subst hJ
  have mono : ∀ k, pairs crossR (T.take k) ≤ 12100 := fun k => by
    have h1 := pairs_le crossR (T.take k)
    have h2 : (T.take k).length * (T.take k).length ≤ 110 * 110 := Nat.mul_le_mul (by simp; omega) (by simp; omega)
    omega
  have hmk := mono k
  simp only [Int.toNat_natCast, Int.ofNat_lt]
  refine ⟨fun hlt => ?_, fun hge => ?_⟩
  · have hsnoc : pairs crossR (T.take (k + 1)) = pairs crossR (T.take k) + ((T.take k).filter fun a => crossR a T[k]).length := by rw [take_succ_eq hlt, pairs_snoc]
    have hmk1 := mono (k + 1)
    rw [getD_nat hlt]
    refine ⟨by omega, hlt, by omega, by omega, by omega, (T[k].1, T[k].2, (k : Int), k, (k : Int)), (((pairs crossR (T.take k) : Nat) : Int), 0), ?_, ?_⟩
    · simp
    · refine LoopP.count2 (X := Int) k (fun m d => d = (pairs crossR (T.take k) : Nat) + (((T.take m).filter fun a => crossR a T[k]).length : Nat)) (by simp) fun m d hm hJ q' hq' => ?_
      subst hJ
      have hfl : ((T.take m).filter fun a => crossR a T[k]).length ≤ 110 := Nat.le_trans (List.length_filter_le _ _) (by simp; omega)
      simp only [Int.toNat_natCast, Int.ofNat_lt, Int.toNat_zero, Int.ofNat_zero, Int.zero_add, Int.toNat_natCast]
      refine ⟨fun hlt2 => ?_, fun hge2 => ?_⟩
      · have hmT : m < T.length := by omega
        have hs : ((T.take (m + 1)).filter fun a => crossR a T[k]).length = ((T.take m).filter fun a => crossR a T[k]).length + if crossR T[m] T[k] then 1 else 0 := by
          rw [take_succ_eq hmT, List.filter_append, List.length_append]
          congr 1
          cases hcr : crossR T[m] T[k] <;> simp [hcr]
        simp only [getD_nat hmT]
        refine ⟨by omega, by omega, fun hx => ?_, fun hx => ?_⟩
        · refine ⟨by omega, by omega, (_, _), ⟨rfl, rfl⟩, hq' _ (by omega) ?_⟩
          rw [hs, if_pos (by simp [crossR]; omega)]; omega
        · refine ⟨by omega, (_, _), ⟨rfl, rfl⟩, hq' _ (by omega) ?_⟩
          rw [hs, if_neg (by simp [crossR]; omega)]; omega
      · have : m = k := by omega
        subst this
        refine ⟨by omega, (_, _), ⟨rfl, rfl⟩, hq _ hlt ?_⟩
        rw [hsnoc]; omega
  · have : k = T.length := by omega
    subst this
    rw [List.take_length, hc]
end Go.Proofs.Tryd
set_option linter.unusedVariables false
namespace Go.Proofs.Tryd
open Go Go.V Go.Proofs
def al_eye_Out : AL (List Int) := (.one (.k (.list (.i .i64))))
def pre_eye_Out (d : List Int) : Prop := d.length ≤ 110
def res_eye_Out (d : List Int) : SV := .tup [.lst 0, .val (.i .i64) (aloneErr d)]
def obs_eye_Out (d : List Int) : List OB := [.lst 3 (.i .i64) (if aloneErr d = 0 then outW d else []) ((if aloneErr d = 0 then outW d else []).isEmpty)]
def s_eye_Out : CSp := mkSp al_eye_Out pre_eye_Out res_eye_Out obs_eye_Out
def vc_eye_Out (l : List Int) : Prop :=
  (l.length ≤ 1000000) ∧ (((aloneErr l) != (0 : Int)) = true →
    ((True ∧ (aloneErr l) = aloneErr l ∧ (([] : List SV) = [])) ∧ (((if aloneErr l = 0 then outW l else []) = [] ∧ (if aloneErr l = 0 then outW l else []).isEmpty = true) ∧ True))) ∧
  (((aloneErr l) != (0 : Int)) = false →
    (l.length ≤ 1000000) ∧ ((thr l).length ≤ 1000 ∧ ∀ x ∈ (thr l), ∀ y ∈ (thr l), (fun (x1 : (Int × Int) × (Int × Int)) => True) (x, y)) ∧ ((lonL (fun x y => (fun (x1 : (Int × Int) × (Int × Int)) => (decide (x1.1.2 < x1.2.2))) (x, y)) (thr l)).length ≤ 1000 ∧ ∀ x ∈ (lonL (fun x y => (fun (x1 : (Int × Int) × (Int × Int)) => (decide (x1.1.2 < x1.2.2))) (x, y)) (thr l)), 0 ≤ x) ∧ ∃ (e4 : Unit) (d40 : (List Int) × Int × Int × Int × Int), ((True ∧ True ∧ (((([] : List SV) = [])) ∧ ((([] : List SV) = []))) ∧ True ∧ (mostL (lonL (fun x y => (fun (x1 : (Int × Int) × (Int × Int)) => (decide (x1.1.2 < x1.2.2))) (x, y)) (thr l))) = d40.2.1 ∧ True ∧ True ∧ (((List.length (thr l)) : Nat) : Int) = (((List.length (thr l)) : Nat) : Int) ∧ (0 : Int) = d40.2.2.2.2 ∧ True) ∧ ((d40.1 = [] ∧ (List.isEmpty d40.1) = true) ∧ ((thr l) = (thr l) ∧ (thr l).isEmpty = (List.isEmpty (thr l))) ∧ ((lonL (fun x y => (fun (x1 : (Int × Int) × (Int × Int)) => (decide (x1.1.2 < x1.2.2))) (x, y)) (thr l)) = (lonL (fun x y => (fun (x1 : (Int × Int) × (Int × Int)) => (decide (x1.1.2 < x1.2.2))) (x, y)) (thr l)) ∧ false = false) ∧ ((-1 : Int) = d40.2.2.1 ∧ (-1 : Int) = d40.2.2.2.1 ∧ (([] : List SV) = [])) ∧ True)) ∧
    LoopP (fun (d4 : (List Int) × Int × Int × Int × Int) (q4 : ((List Int) × Int × Int × Int × Int) → Prop) =>
      ((decide (d4.2.2.2.2 < (((List.length (thr l)) : Nat) : Int))) = true →
        (0 ≤ d4.2.2.2.2) ∧ (d4.2.2.2.2 < (List.length (thr l))) ∧ (InK .i64 (d4.2.2.2.2 + (1 : Int))) ∧ ∃ (e7 : (List Int) × Int × Int × Int × Int × Int × Int) (d70 : Int × Int), ((True ∧ True ∧ (((([] : List SV) = [])) ∧ ((([] : List SV) = []))) ∧ True ∧ d4.2.1 = e7.2.1 ∧ True ∧ True ∧ (0 : Int) = d70.1 ∧ (d4.2.2.2.2 + (1 : Int)) = d70.2 ∧ True ∧ (((List.length (thr l)) : Nat) : Int) = (((List.length (thr l)) : Nat) : Int) ∧ d4.2.2.2.2 = e7.2.2.2.2.2.2 ∧ True) ∧ ((d4.1 = e7.1 ∧ (List.isEmpty d4.1) = (List.isEmpty e7.1)) ∧ ((thr l) = (thr l) ∧ (List.isEmpty (thr l)) = (List.isEmpty (thr l))) ∧ ((lonL (fun x y => (fun (x1 : (Int × Int) × (Int × Int)) => (decide (x1.1.2 < x1.2.2))) (x, y)) (thr l)) = (lonL (fun x y => (fun (x1 : (Int × Int) × (Int × Int)) => (decide (x1.1.2 < x1.2.2))) (x, y)) (thr l)) ∧ false = false) ∧ (d4.2.2.1 = e7.2.2.1 ∧ d4.2.2.2.1 = e7.2.2.2.1 ∧ (([] : List SV) = [])) ∧ ((List.getD (thr l) (Int.toNat d4.2.2.2.2) (0, 0)).1 = e7.2.2.2.2.1 ∧ (List.getD (thr l) (Int.toNat d4.2.2.2.2) (0, 0)).2 = e7.2.2.2.2.2.1 ∧ (([] : List SV) = [])) ∧ True)) ∧
        LoopP (fun (d7 : Int × Int) (q7 : (Int × Int) → Prop) =>
          ((decide (d7.2 < (((List.length (thr l)) : Nat) : Int))) = true →
            (0 ≤ d7.2) ∧ (d7.2 < (List.length (thr l))) ∧ (True) ∧ ((decide (e7.2.2.2.1 < ((List.getD (thr l) (Int.toNat d7.2) (0, 0)).2))) = true →
              (0 ≤ d7.2) ∧ (d7.2 < (List.length (lonL (fun x y => (fun (x1 : (Int × Int) × (Int × Int)) => (decide (x1.1.2 < x1.2.2))) (x, y)) (thr l)))) ∧ (InK .i64 (d7.2 + (1 : Int))) ∧ (∃ d8 : Int × Int, ((True ∧ True ∧ (((([] : List SV) = [])) ∧ ((([] : List SV) = []))) ∧ True ∧ e7.2.1 = e7.2.1 ∧ True ∧ True ∧ (gmax d7.1 (List.getD (lonL (fun x y => (fun (x1 : (Int × Int) × (Int × Int)) => (decide (x1.1.2 < x1.2.2))) (x, y)) (thr l)) (Int.toNat d7.2) 0)) = d8.1 ∧ (d7.2 + (1 : Int)) = d8.2 ∧ True ∧ (((List.length (thr l)) : Nat) : Int) = (((List.length (thr l)) : Nat) : Int) ∧ e7.2.2.2.2.2.2 = e7.2.2.2.2.2.2 ∧ True) ∧ ((e7.1 = e7.1 ∧ (List.isEmpty e7.1) = (List.isEmpty e7.1)) ∧ ((thr l) = (thr l) ∧ (List.isEmpty (thr l)) = (List.isEmpty (thr l))) ∧ ((lonL (fun x y => (fun (x1 : (Int × Int) × (Int × Int)) => (decide (x1.1.2 < x1.2.2))) (x, y)) (thr l)) = (lonL (fun x y => (fun (x1 : (Int × Int) × (Int × Int)) => (decide (x1.1.2 < x1.2.2))) (x, y)) (thr l)) ∧ false = false) ∧ (e7.2.2.1 = e7.2.2.1 ∧ e7.2.2.2.1 = e7.2.2.2.1 ∧ (([] : List SV) = [])) ∧ (e7.2.2.2.2.1 = e7.2.2.2.2.1 ∧ e7.2.2.2.2.2.1 = e7.2.2.2.2.2.1 ∧ (([] : List SV) = [])) ∧ True)) ∧ q7 d8)) ∧
            ((decide (e7.2.2.2.1 < ((List.getD (thr l) (Int.toNat d7.2) (0, 0)).2))) = false →
              (InK .i64 (d7.2 + (1 : Int))) ∧ (∃ d9 : Int × Int, ((True ∧ True ∧ (((([] : List SV) = [])) ∧ ((([] : List SV) = []))) ∧ True ∧ e7.2.1 = e7.2.1 ∧ True ∧ True ∧ d7.1 = d9.1 ∧ (d7.2 + (1 : Int)) = d9.2 ∧ True ∧ (((List.length (thr l)) : Nat) : Int) = (((List.length (thr l)) : Nat) : Int) ∧ e7.2.2.2.2.2.2 = e7.2.2.2.2.2.2 ∧ True) ∧ ((e7.1 = e7.1 ∧ (List.isEmpty e7.1) = (List.isEmpty e7.1)) ∧ ((thr l) = (thr l) ∧ (List.isEmpty (thr l)) = (List.isEmpty (thr l))) ∧ ((lonL (fun x y => (fun (x1 : (Int × Int) × (Int × Int)) => (decide (x1.1.2 < x1.2.2))) (x, y)) (thr l)) = (lonL (fun x y => (fun (x1 : (Int × Int) × (Int × Int)) => (decide (x1.1.2 < x1.2.2))) (x, y)) (thr l)) ∧ false = false) ∧ (e7.2.2.1 = e7.2.2.1 ∧ e7.2.2.2.1 = e7.2.2.2.1 ∧ (([] : List SV) = [])) ∧ (e7.2.2.2.2.1 = e7.2.2.2.2.1 ∧ e7.2.2.2.2.2.1 = e7.2.2.2.2.2.1 ∧ (([] : List SV) = [])) ∧ True)) ∧ q7 d9))) ∧
          ((decide (d7.2 < (((List.length (thr l)) : Nat) : Int))) = false →
            ((decide (d7.1 ≥ e7.2.1)) = false → True) ∧ (((decide (d7.1 ≥ e7.2.1)) || (!(decide (e7.2.2.2.1 < e7.2.2.2.2.2.1)))) = true →
              (((List.length e7.1) + (List.length [e7.2.2.2.2.1])) * 8 ≤ 70368744177664) ∧ (InK .i64 (e7.2.2.2.2.2.2 + (1 : Int))) ∧ (∃ d10 : (List Int) × Int × Int × Int × Int, ((True ∧ True ∧ (((([] : List SV) = [])) ∧ ((([] : List SV) = []))) ∧ True ∧ e7.2.1 = d10.2.1 ∧ True ∧ True ∧ (((List.length (thr l)) : Nat) : Int) = (((List.length (thr l)) : Nat) : Int) ∧ (e7.2.2.2.2.2.2 + (1 : Int)) = d10.2.2.2.2 ∧ True) ∧ (((e7.1 ++ [e7.2.2.2.2.1]) = d10.1 ∧ false = (List.isEmpty d10.1)) ∧ ((thr l) = (thr l) ∧ (List.isEmpty (thr l)) = (List.isEmpty (thr l))) ∧ ((lonL (fun x y => (fun (x1 : (Int × Int) × (Int × Int)) => (decide (x1.1.2 < x1.2.2))) (x, y)) (thr l)) = (lonL (fun x y => (fun (x1 : (Int × Int) × (Int × Int)) => (decide (x1.1.2 < x1.2.2))) (x, y)) (thr l)) ∧ false = false) ∧ (e7.2.2.1 = d10.2.2.1 ∧ e7.2.2.2.1 = d10.2.2.2.1 ∧ (([] : List SV) = [])) ∧ True)) ∧ q4 d10)) ∧
            (((decide (d7.1 ≥ e7.2.1)) || (!(decide (e7.2.2.2.1 < e7.2.2.2.2.2.1)))) = false →
              (InK .i64 (e7.2.1 - (1 : Int))) ∧ (InK .i64 (e7.2.2.2.2.2.2 + (1 : Int))) ∧ (∃ d11 : (List Int) × Int × Int × Int × Int, ((True ∧ True ∧ (((([] : List SV) = [])) ∧ ((([] : List SV) = []))) ∧ True ∧ (e7.2.1 - (1 : Int)) = d11.2.1 ∧ True ∧ True ∧ (((List.length (thr l)) : Nat) : Int) = (((List.length (thr l)) : Nat) : Int) ∧ (e7.2.2.2.2.2.2 + (1 : Int)) = d11.2.2.2.2 ∧ True) ∧ ((e7.1 = d11.1 ∧ (List.isEmpty e7.1) = (List.isEmpty d11.1)) ∧ ((thr l) = (thr l) ∧ (List.isEmpty (thr l)) = (List.isEmpty (thr l))) ∧ ((lonL (fun x y => (fun (x1 : (Int × Int) × (Int × Int)) => (decide (x1.1.2 < x1.2.2))) (x, y)) (thr l)) = (lonL (fun x y => (fun (x1 : (Int × Int) × (Int × Int)) => (decide (x1.1.2 < x1.2.2))) (x, y)) (thr l)) ∧ false = false) ∧ (e7.2.2.2.2.1 = d11.2.2.1 ∧ e7.2.2.2.2.2.1 = d11.2.2.2.1 ∧ (([] : List SV) = [])) ∧ True)) ∧ q4 d11)))) d70) ∧
      ((decide (d4.2.2.2.2 < (((List.length (thr l)) : Nat) : Int))) = false →
        ((True ∧ (0 : Int) = aloneErr l ∧ (([] : List SV) = [])) ∧ ((d4.1 = (if aloneErr l = 0 then outW l else []) ∧ (List.isEmpty d4.1) = (if aloneErr l = 0 then outW l else []).isEmpty) ∧ True)))) d40)
def cx_eye_Out : Cx := ⟨[(3, (.i .i64))], [(52, s_eye_checkDrawing), (53, s_eye_threads), (56, s_eye_longest), (55, s_eye_Out_1), (57, s_eye_most)], 75, [], 0, [], [], [], [], false⟩
def lp_eye_Out (l : List Int) : List (Nat × LoopAnn) := [(0, ⟨Unit, (List Int) × Int × Int × Int × Int, [2, 5, 6, 7, 8, 9, 27, 28, 29], fun e x => [.lst 69, .lst 20, .fn 55 [] [], .lst 23, .val (.i .i64) x.2.1, .box 9 0, .lst 20, .val (.i .i64) (((List.length (thr l)) : Nat) : Int), .val (.i .i64) x.2.2.2.2], fun e x => [(69, .slot 2, .lst 3 (.i .i64) x.1 (List.isEmpty x.1)), (20, .slot 5, .lst 98 (.pair (.i .i64) (.i .i64)) (thr l) (List.isEmpty (thr l))), (23, .slot 7, .lst 3 (.i .i64) (lonL (fun x y => (fun (x1 : (Int × Int) × (Int × Int)) => (decide (x1.1.2 < x1.2.2))) (x, y)) (thr l)) false), (9, .slot 9, .cells [.val (.i .i64) x.2.2.1, .val (.i .i64) x.2.2.2.1])]⟩),
  (2, ⟨(List Int) × Int × Int × Int × Int × Int × Int, Int × Int, [2, 5, 6, 7, 8, 9, 11, 12, 13, 27, 28, 29], fun e x => [.lst 69, .lst 20, .fn 55 [] [], .lst 23, .val (.i .i64) e.2.1, .box 9 0, .box 11 0, .val (.i .i64) x.1, .val (.i .i64) x.2, .lst 20, .val (.i .i64) (((List.length (thr l)) : Nat) : Int), .val (.i .i64) e.2.2.2.2.2.2], fun e x => [(69, .slot 2, .lst 3 (.i .i64) e.1 (List.isEmpty e.1)), (20, .slot 5, .lst 98 (.pair (.i .i64) (.i .i64)) (thr l) (List.isEmpty (thr l))), (23, .slot 7, .lst 3 (.i .i64) (lonL (fun x y => (fun (x1 : (Int × Int) × (Int × Int)) => (decide (x1.1.2 < x1.2.2))) (x, y)) (thr l)) false), (9, .slot 9, .cells [.val (.i .i64) e.2.2.1, .val (.i .i64) e.2.2.2.1]), (11, .slot 11, .cells [.val (.i .i64) e.2.2.2.2.1, .val (.i .i64) e.2.2.2.2.2.1])]⟩)]
set_option maxRecDepth 100000 in
theorem vq_eye_Out (d : List Int) : gwp (cx_eye_Out) (lp_eye_Out d) c23 0 (gend [.tmp 2, .tmp 3] (res_eye_Out d) (obs_eye_Out d)) (gstart 75 (AL.can al_eye_Out d)) = vc_eye_Out d := by kernel_rfl
abbrev Ok_eye_Out : Prop := OkC Tryd.prog 23 s_eye_Out
theorem mk_eye_Out (h : ∀ (l : List Int), (l.length ≤ 110) → vc_eye_Out l) : OkC Tryd.prog 23 s_eye_Out :=
  okC_vc fun23 mixed (C := cx_eye_Out) (V := fun (d : List Int) => vc_eye_Out d) ⟨(.cons ok_eye_checkDrawing (.cons ok_eye_threads (.cons ok_eye_longest (.cons ok_eye_Out_1 (.cons ok_eye_most .nil))))), XsOk.nil, ItsOk.nil⟩ (vq_eye_Out) fun d hp => h d hp
theorem lonL_apart (T : List (Int × Int)) : lonL (fun x y => decide (x.2 < y.2)) T = lonL apartR T := rfl
theorem lonL_nonneg {α : Type} (R : α → α → Bool) (l : List α) : ∀ x ∈ lonL R l, 0 ≤ x := by
  induction l with
  | nil => intro x hx; cases hx
  | cons a r ih =>
    intro x hx
    rcases List.mem_cons.1 hx with rfl | hx
    · omega
    · exact ih x hx
theorem ok_eye_Out : Ok_eye_Out := mk_eye_Out fun l hl => by
  simp only [vc_eye_Out, true_and, and_true, exists_const, decide_eq_true_eq, decide_eq_false_iff_not, bne_iff_ne, ne_eq, bne_eq_false_iff_eq, ge_iff_le, InK_i64]
  refine ⟨by omega, fun he => by simp [he], fun he => ⟨by omega, ⟨by have := thr_len l; omega, fun _ _ _ _ => trivial⟩, ?_⟩⟩
  obtain ⟨h96, hval⟩ := aloneErr_zero he
  have hTl := thr_len l
  have hfirst := first_apart hval
  have hoW : outW l = (outG apartR (-1, -1) (thr l)).map (·.1) := rfl
  simp only [he, if_true, lonL_apart]
  rw [hoW]
  generalize thr l = T at *
  have hlen := lonL_length (R := apartR) T
  refine ⟨⟨by omega, lonL_nonneg _ _⟩, ([], mostL (lonL apartR T), -1, -1, 0), ⟨⟨rfl, rfl⟩, ⟨rfl, rfl⟩, rfl, rfl⟩, ?_⟩
  refine ⟨fun d => ∃ i : Nat, i ≤ T.length ∧ d.2.2.2.2 = i ∧ d.2.1 = (best apartR (d.2.2.1, d.2.2.2.1) (T.drop i) : Nat) ∧ d.1.length ≤ i ∧ d.1 ++ (outG apartR (d.2.2.1, d.2.2.2.1) (T.drop i)).map (·.1) = (outG apartR (-1, -1) T).map (·.1), fun d => T.length - d.2.2.2.2.toNat, ⟨0, Nat.zero_le _, rfl, ?_, Nat.le_refl _, rfl⟩, ?_⟩
  · show mostL (lonL apartR T) = _
    rw [List.drop_zero, best_all hfirst]; rfl
  rintro ⟨out, left, a1, a2, _⟩ ⟨i, hi, rfl, hleft, hol, hout⟩
  dsimp only at hleft hol hout ⊢
  refine ⟨fun hlt => ?_, fun hge => ?_⟩
  · have hlt : i < T.length := by omega
    have hdrop : T.drop i = T[i] :: T.drop (i + 1) := List.drop_eq_getElem_cons hlt
    have hbl := best_len (R := apartR) (l := T.drop i) (a := (a1, a2))
    have hdl : (T.drop i).length ≤ 110 := by simp; omega
    have hbl' : best apartR (a1, a2) (T[i] :: T.drop (i + 1)) ≤ 110 := by rw [← hdrop]; omega
    rw [Int.toNat_natCast, getD_nat hlt]
    rw [hdrop] at hleft hout
    refine ⟨by omega, by omega, by omega, (out, left, a1, a2, T[i].1, T[i].2, (i : Int)), (0, (i : Int) + 1), ⟨⟨rfl, rfl, rfl, rfl⟩, ⟨rfl, rfl⟩, ⟨rfl, rfl⟩, rfl, rfl⟩, ?_⟩
    refine ⟨fun d => ∃ k : Nat, i + 1 ≤ k ∧ k ≤ T.length ∧ d.2 = k ∧ 0 ≤ d.1 ∧ gmax d.1 (best apartR (a1, a2) (T.drop k) : Nat) = (best apartR (a1, a2) (T.drop (i + 1)) : Nat), fun d => T.length - d.2.toNat, ⟨i + 1, by omega, by omega, by simp, Int.le_refl _, ?_⟩, ?_⟩
    · unfold gmax; split <;> omega
    rintro ⟨bst, _⟩ ⟨k, hk1, hk2, rfl, hb0, hbm⟩
    dsimp only at hb0 hbm ⊢
    refine ⟨fun hkl => ?_, fun hkl => ?_⟩
    · have hkl : k < T.length := by omega
      have hkd : T.drop k = T[k] :: T.drop (k + 1) := List.drop_eq_getElem_cons hkl
      rw [Int.toNat_natCast, getD_nat hkl, lonL_get hkl]
      rw [hkd] at hbm
      refine ⟨by omega, by omega, fun hc => ?_, fun hc => ?_⟩
      · have hR : apartR (a1, a2) T[k] = true := by simp only [apartR, decide_eq_true_eq]; exact hc
        simp only [best, hR, if_true] at hbm
        refine ⟨by omega, by omega, by omega, (gmax bst ((best apartR T[k] (T.drop (k + 1)) + 1 : Nat) : Int), (k : Int) + 1), ⟨rfl, rfl⟩, ⟨k + 1, by omega, by omega, by simp, ?_, ?_⟩, by simp; omega⟩
        · dsimp only; unfold gmax; split <;> omega
        · dsimp only; rw [← hbm]
          generalize best apartR T[k] (T.drop (k + 1)) = A
          generalize best apartR (a1, a2) (T.drop (k + 1)) = B
          unfold gmax
          repeat' split
          all_goals omega
      · have hR : ¬ apartR (a1, a2) T[k] = true := by simp only [apartR, decide_eq_true_eq]; exact hc
        simp only [best] at hbm
        rw [if_neg hR] at hbm
        exact ⟨by omega, (bst, (k : Int) + 1), ⟨rfl, rfl⟩, ⟨k + 1, by omega, by omega, by simp, hb0, hbm⟩, by simp; omega⟩
    · have : k = T.length := by omega
      subst this
      rw [List.drop_length] at hbm
      have hbm : bst = (best apartR (a1, a2) (T.drop (i + 1)) : Nat) := by
        rw [← hbm]; simp only [best]; unfold gmax; split <;> omega
      have htail := best_tail (R := apartR) (x := T[i]) (r := T.drop (i + 1)) (a := (a1, a2))
      refine ⟨fun _ => trivial, fun hc => ?_, fun hc => ?_⟩
      · have hle : best apartR (a1, a2) (T[i] :: T.drop (i + 1)) ≤ best apartR (a1, a2) (T.drop (i + 1)) := by
          simp only [Bool.or_eq_true, decide_eq_true_eq, Bool.not_eq_true', decide_eq_false_iff_not] at hc
          rcases hc with hc | hc
          · omega
          · have hR : ¬ apartR (a1, a2) T[i] = true := by simp only [apartR, decide_eq_true_eq]; exact hc
            simp only [best]; rw [if_neg hR]; exact Nat.le_refl _
        refine ⟨by simp only [List.length_singleton]; omega, by omega, (out ++ [T[i].1], left, a1, a2, (i : Int) + 1), ⟨⟨rfl, rfl⟩, ⟨rfl, by simp⟩, rfl, rfl⟩, ⟨i + 1, by omega, by simp, ?_, by simp; omega, ?_⟩, by simp; omega⟩
        · dsimp only; rw [hleft]; omega
        · dsimp only
          simp only [outG, if_pos hle, List.map_cons] at hout
          rw [← hout, List.append_assoc]; rfl
      · simp only [Bool.or_eq_false_iff, decide_eq_false_iff_not, Bool.not_eq_false', decide_eq_true_eq] at hc
        have hlt2 : best apartR (a1, a2) (T.drop (i + 1)) < best apartR (a1, a2) (T[i] :: T.drop (i + 1)) := by omega
        obtain ⟨k1, k2⟩ := best_step hlt2
        refine ⟨by omega, by omega, (out, left - 1, T[i].1, T[i].2, (i : Int) + 1), ⟨⟨rfl, rfl⟩, ⟨rfl, rfl⟩, rfl, rfl⟩, ⟨i + 1, by omega, by simp, ?_, by simp; omega, ?_⟩, by simp; omega⟩
        · dsimp only; rw [pair_eta]; omega
        · dsimp only
          simp only [outG] at hout
          rw [if_neg (by omega)] at hout
          exact hout
  · have : i = T.length := by omega
    subst this
    rw [List.drop_length] at hout
    simp only [outG, List.map_nil, List.append_nil] at hout
    exact ⟨trivial, hout, by rw [hout]⟩
end Go.Proofs.Tryd
set_option linter.unusedVariables false
namespace Go.Proofs.Tryd
open Go Go.V Go.Proofs
def al_slices_IndexFunc_eye_thread_eye_thread : AL ((List (Int × Int)) × ((Int × Int → Prop) × (Int × Int → Bool))) := (.cons (.k (.list (.pair (.i .i64) (.i .i64)))) (.one (.fn [(.pair (.i .i64) (.i .i64))] .bo)))
def pre_slices_IndexFunc_eye_thread_eye_thread (d : (List (Int × Int)) × ((Int × Int → Prop) × (Int × Int → Bool))) : Prop := d.1.length ≤ 1000000 ∧ ∀ x ∈ d.1, d.2.1 x
def res_slices_IndexFunc_eye_thread_eye_thread (d : (List (Int × Int)) × ((Int × Int → Prop) × (Int × Int → Bool))) : SV := .val (.i .i64) (idxG d.1 d.2.2)
def obs_slices_IndexFunc_eye_thread_eye_thread (d : (List (Int × Int)) × ((Int × Int → Prop) × (Int × Int → Bool))) : List OB := []
def s_slices_IndexFunc_eye_thread_eye_thread : CSp := mkSp al_slices_IndexFunc_eye_thread_eye_thread pre_slices_IndexFunc_eye_thread_eye_thread res_slices_IndexFunc_eye_thread_eye_thread obs_slices_IndexFunc_eye_thread_eye_thread
def vc_slices_IndexFunc_eye_thread_eye_thread (l : List (Int × Int)) (p : (Int × Int → Prop) × (Int × Int → Bool)) : Prop :=
  ∃ (e2 : Unit) (d20 : Int), ((l = l ∧ (SV.pf [(.pair (.i .i64) (.i .i64))] .bo p.1 p.2 = SV.pf [(.pair (.i .i64) (.i .i64))] .bo p.1 p.2) ∧ (((List.length l) : Nat) : Int) = (((List.length l) : Nat) : Int) ∧ (0 : Int) = d20 ∧ True) ∧ (True)) ∧
  LoopP (fun (d2 : Int) (q2 : (Int) → Prop) =>
    ((decide (d2 < (((List.length l) : Nat) : Int))) = true →
      (0 ≤ d2) ∧ (d2 < (List.length l)) ∧ (p.1 ((List.getD l (Int.toNat d2) (0, 0)).1, (List.getD l (Int.toNat d2) (0, 0)).2)) ∧ ((p.2 ((List.getD l (Int.toNat d2) (0, 0)).1, (List.getD l (Int.toNat d2) (0, 0)).2)) = true →
        (d2 = (idxG l p.2) ∧ (True))) ∧
      ((p.2 ((List.getD l (Int.toNat d2) (0, 0)).1, (List.getD l (Int.toNat d2) (0, 0)).2)) = false →
        (InK .i64 (d2 + (1 : Int))) ∧ (∃ d3 : Int, ((l = l ∧ (SV.pf [(.pair (.i .i64) (.i .i64))] .bo p.1 p.2 = SV.pf [(.pair (.i .i64) (.i .i64))] .bo p.1 p.2) ∧ (((List.length l) : Nat) : Int) = (((List.length l) : Nat) : Int) ∧ (d2 + (1 : Int)) = d3 ∧ True) ∧ (True)) ∧ q2 d3))) ∧
    ((decide (d2 < (((List.length l) : Nat) : Int))) = false →
      ((-1 : Int) = (idxG l p.2) ∧ (True)))) d20
def cx_slices_IndexFunc_eye_thread_eye_thread : Cx := ⟨[], [], 19, [], 0, [], [], [], [], false⟩
def lp_slices_IndexFunc_eye_thread_eye_thread (l : List (Int × Int)) (p : (Int × Int → Prop) × (Int × Int → Bool)) : List (Nat × LoopAnn) := [(0, ⟨Unit, Int, [0, 1, 7, 8], fun e x => [.val (.list (.pair (.i .i64) (.i .i64))) l, .pf [(.pair (.i .i64) (.i .i64))] .bo p.1 p.2, .val (.i .i64) (((List.length l) : Nat) : Int), .val (.i .i64) x], fun e x => []⟩)]
set_option maxRecDepth 100000 in
theorem vq_slices_IndexFunc_eye_thread_eye_thread (d : (List (Int × Int)) × ((Int × Int → Prop) × (Int × Int → Bool))) : gwp (cx_slices_IndexFunc_eye_thread_eye_thread) (lp_slices_IndexFunc_eye_thread_eye_thread d.1 d.2) c60 0 (gend [.tmp 4] (res_slices_IndexFunc_eye_thread_eye_thread d) (obs_slices_IndexFunc_eye_thread_eye_thread d)) (gstart 19 (AL.can al_slices_IndexFunc_eye_thread_eye_thread d)) = vc_slices_IndexFunc_eye_thread_eye_thread d.1 d.2 := by kernel_rfl
abbrev Ok_slices_IndexFunc_eye_thread_eye_thread : Prop := OkC Tryd.prog 60 s_slices_IndexFunc_eye_thread_eye_thread
theorem mk_slices_IndexFunc_eye_thread_eye_thread (h : ∀ (l : List (Int × Int)) (p : (Int × Int → Prop) × (Int × Int → Bool)), (l.length ≤ 1000000 ∧ ∀ x ∈ l, p.1 x) → vc_slices_IndexFunc_eye_thread_eye_thread l p) : OkC Tryd.prog 60 s_slices_IndexFunc_eye_thread_eye_thread :=
  okC_vc fun60 mixed (C := cx_slices_IndexFunc_eye_thread_eye_thread) (V := fun (d : (List (Int × Int)) × ((Int × Int → Prop) × (Int × Int → Bool))) => vc_slices_IndexFunc_eye_thread_eye_thread d.1 d.2) ⟨.nil, XsOk.nil, ItsOk.nil⟩ (vq_slices_IndexFunc_eye_thread_eye_thread) fun d hp => h d.1 d.2 hp
theorem idxG_some {α : Type} {l : List α} {p : α → Bool} {k : Nat} (hk : k < l.length) (h : p l[k] = true) (hJ : (l.take k).any p = false) : idxG l p = k := by
  have : l.findIdx? p = some k := by
    rw [List.findIdx?_eq_some_iff_getElem]
    refine ⟨hk, h, fun j hj => ?_⟩
    have hn := List.any_eq_false.1 hJ l[j] (List.mem_take_iff_getElem.2 ⟨j, by omega, rfl⟩)
    simpa using hn
  simp [idxG, this]
theorem idxG_none {α : Type} {l : List α} {p : α → Bool} (hJ : l.any p = false) : idxG l p = -1 := by
  have : l.findIdx? p = none := by
    rw [List.findIdx?_eq_none_iff]
    intro x hx
    have := List.any_eq_false.1 hJ x hx
    simpa using this
  simp [idxG, this]
theorem ok_slices_IndexFunc_eye_thread_eye_thread : Ok_slices_IndexFunc_eye_thread_eye_thread := mk_slices_IndexFunc_eye_thread_eye_thread fun l p hp => by
  simp only [vc_slices_IndexFunc_eye_thread_eye_thread, true_and, and_true, exists_eq_left', exists_const, decide_eq_true_eq, decide_eq_false_iff_not]
  refine LoopP.count l.length (fun k => (l.take k).any p.2 = false) (by simp) fun k hk1 hJ q hq => ?_
  simp only [Int.toNat_natCast, Int.ofNat_lt, InK_i64]
  refine ⟨fun hlt => ?_, fun hge => ?_⟩
  · rw [getD_nat hlt]
    refine ⟨by omega, hlt, hp.2 _ (List.getElem_mem hlt), fun hx => ?_, fun hx => ⟨by omega, hq hlt ?_⟩⟩
    · rw [idxG_some hlt hx hJ]
    · rw [take_succ_eq hlt, List.any_append, hJ]; simp [hx]
  · rw [List.take_of_length_le (by omega)] at hJ
    rw [idxG_none hJ]
def al_eye_Layers_1 : AL ((Int × Int) × Int × Int) := (.cons (.agg (.cons (.k (.i .i64)) (.one (.k (.i .i64))))) (.one (.ptr (.cons (.k (.i .i64)) (.one (.k (.i .i64)))))))
def pre_eye_Layers_1 (d : (Int × Int) × Int × Int) : Prop := True
def res_eye_Layers_1 (d : (Int × Int) × Int × Int) : SV := .val .bo (!(decide (d.1.2 ≥ d.2.2)))
def obs_eye_Layers_1 (d : (Int × Int) × Int × Int) : List OB := []
def s_eye_Layers_1 : CSp := mkSp al_eye_Layers_1 pre_eye_Layers_1 res_eye_Layers_1 obs_eye_Layers_1
def vc_eye_Layers_1 (w1 : Int) (e1 : Int) (w2 : Int) (e2 : Int) : Prop :=
  (True) ∧ ((!(decide (e1 ≥ e2))) = (!(decide (e1 ≥ e2))) ∧ (True))
def cx_eye_Layers_1 : Cx := ⟨[], [(54, s_eye_cross)], 8, [], 0, [], [], [], [], false⟩
def lp_eye_Layers_1 (w1 : Int) (e1 : Int) (w2 : Int) (e2 : Int) : List (Nat × LoopAnn) := []
set_option maxRecDepth 100000 in
theorem vq_eye_Layers_1 (d : (Int × Int) × Int × Int) : gwp (cx_eye_Layers_1) (lp_eye_Layers_1 d.1.1 d.1.2 d.2.1 d.2.2) c61 0 (gend [.tmp 3] (res_eye_Layers_1 d) (obs_eye_Layers_1 d)) (gstart 8 (AL.can al_eye_Layers_1 d)) = vc_eye_Layers_1 d.1.1 d.1.2 d.2.1 d.2.2 := by kernel_rfl
abbrev Ok_eye_Layers_1 : Prop := OkC Tryd.prog 61 s_eye_Layers_1
theorem mk_eye_Layers_1 (h : ∀ (w1 : Int) (e1 : Int) (w2 : Int) (e2 : Int), (True) → vc_eye_Layers_1 w1 e1 w2 e2) : OkC Tryd.prog 61 s_eye_Layers_1 :=
  okC_vc fun61 mixed (C := cx_eye_Layers_1) (V := fun (d : (Int × Int) × Int × Int) => vc_eye_Layers_1 d.1.1 d.1.2 d.2.1 d.2.2) ⟨(.cons ok_eye_cross .nil), XsOk.nil, ItsOk.nil⟩ (vq_eye_Layers_1) fun d hp => h d.1.1 d.1.2 d.2.1 d.2.2 hp
theorem ok_eye_Layers_1 : Ok_eye_Layers_1 := mk_eye_Layers_1 fun w1 e1 w2 e2 _ => by simp [vc_eye_Layers_1]
def al_eye_Layers : AL (List Int) := (.one (.k (.list (.i .i64))))
def pre_eye_Layers (d : List Int) : Prop := d.length ≤ 110
def res_eye_Layers (d : List Int) : SV := .tup [.dd 0 .out, .val (.i .i64) (aloneErr d)]
def obs_eye_Layers (d : List Int) : List OB := [.deep 22 (some 3) (.list (.i .i64)) (if aloneErr d = 0 then layersW d else []) ((if aloneErr d = 0 then layersW d else []).isEmpty) none]
def s_eye_Layers : CSp := mkSp al_eye_Layers pre_eye_Layers res_eye_Layers obs_eye_Layers
def vc_eye_Layers (l : List Int) : Prop :=
  (l.length ≤ 1000000) ∧ (((aloneErr l) != (0 : Int)) = true →
    ((True ∧ (aloneErr l) = aloneErr l ∧ (([] : List SV) = [])) ∧ (((if aloneErr l = 0 then layersW l else []) = [] ∧ (if aloneErr l = 0 then layersW l else []).isEmpty = true) ∧ True))) ∧
  (((aloneErr l) != (0 : Int)) = false →
    (l.length ≤ 1000000) ∧ ∃ (e4 : Unit) (d40 : (List (List Int)) × (List (Int × Int)) × Int), ((True ∧ True ∧ True ∧ (((List.length (thr l)) : Nat) : Int) = (((List.length (thr l)) : Nat) : Int) ∧ (0 : Int) = d40.2.2 ∧ True) ∧ ((d40.1 = [] ∧ (List.isEmpty d40.1) = true) ∧ (d40.2.1 = [] ∧ (List.isEmpty d40.2.1) = true) ∧ ((thr l) = (thr l) ∧ (thr l).isEmpty = (List.isEmpty (thr l))) ∧ True)) ∧
    LoopP (fun (d4 : (List (List Int)) × (List (Int × Int)) × Int) (q4 : ((List (List Int)) × (List (Int × Int)) × Int) → Prop) =>
      ((decide (d4.2.2 < (((List.length (thr l)) : Nat) : Int))) = true →
        (0 ≤ d4.2.2) ∧ (d4.2.2 < (List.length (thr l))) ∧ (d4.2.1.length ≤ 1000000 ∧ ∀ x ∈ d4.2.1, (fun (x1 : Int × Int) => True) x) ∧ ((decide ((idxG d4.2.1 (fun (x1 : Int × Int) => (!(decide (x1.2 ≥ ((List.getD (thr l) (Int.toNat d4.2.2) (0, 0)).2)))))) < (0 : Int))) = true →
          (((List.length d4.2.1) + (List.length [((List.getD (thr l) (Int.toNat d4.2.2) (0, 0)).1, (List.getD (thr l) (Int.toNat d4.2.2) (0, 0)).2)])) * 16 ≤ 70368744177664) ∧ (((List.length d4.1) + (List.length [([] : List Int)])) * 24 ≤ 70368744177664) ∧ (0 ≤ (((List.length d4.2.1) : Nat) : Int)) ∧ ((((List.length d4.2.1) : Nat) : Int) < (List.length (d4.2.1 ++ [((List.getD (thr l) (Int.toNat d4.2.2) (0, 0)).1, (List.getD (thr l) (Int.toNat d4.2.2) (0, 0)).2)]))) ∧ (0 ≤ (((List.length d4.2.1) : Nat) : Int)) ∧ ((((List.length d4.2.1) : Nat) : Int) < (List.length (d4.1 ++ [([] : List Int)]))) ∧ (((List.length (List.getD (d4.1 ++ [([] : List Int)]) (Int.toNat (((List.length d4.2.1) : Nat) : Int)) [])) + (List.length [(List.getD (thr l) (Int.toNat d4.2.2) (0, 0)).1])) * 8 ≤ 70368744177664) ∧ ([(List.getD (thr l) (Int.toNat d4.2.2) (0, 0)).1] ≠ []) ∧ (0 ≤ (((List.length d4.2.1) : Nat) : Int)) ∧ ((((List.length d4.2.1) : Nat) : Int) < (List.length (d4.1 ++ [([] : List Int)]))) ∧ (Int.toNat (((List.length d4.2.1) : Nat) : Int)) = (Int.toNat (((List.length d4.2.1) : Nat) : Int)) ∧ (InK .i64 (d4.2.2 + (1 : Int))) ∧ (∃ d5 : (List (List Int)) × (List (Int × Int)) × Int, ((True ∧ True ∧ True ∧ (((List.length (thr l)) : Nat) : Int) = (((List.length (thr l)) : Nat) : Int) ∧ (d4.2.2 + (1 : Int)) = d5.2.2 ∧ True) ∧ (((List.set (d4.1 ++ [([] : List Int)]) (Int.toNat (((List.length d4.2.1) : Nat) : Int)) ((List.getD (d4.1 ++ [([] : List Int)]) (Int.toNat (((List.length d4.2.1) : Nat) : Int)) []) ++ [(List.getD (thr l) (Int.toNat d4.2.2) (0, 0)).1])) = d5.1 ∧ false = (List.isEmpty d5.1)) ∧ ((List.set (d4.2.1 ++ [((List.getD (thr l) (Int.toNat d4.2.2) (0, 0)).1, (List.getD (thr l) (Int.toNat d4.2.2) (0, 0)).2)]) (Int.toNat (((List.length d4.2.1) : Nat) : Int)) ((List.getD (thr l) (Int.toNat d4.2.2) (0, 0)).1, (List.getD (thr l) (Int.toNat d4.2.2) (0, 0)).2)) = d5.2.1 ∧ false = (List.isEmpty d5.2.1)) ∧ ((thr l) = (thr l) ∧ (List.isEmpty (thr l)) = (List.isEmpty (thr l))) ∧ True)) ∧ q4 d5)) ∧
        ((decide ((idxG d4.2.1 (fun (x1 : Int × Int) => (!(decide (x1.2 ≥ ((List.getD (thr l) (Int.toNat d4.2.2) (0, 0)).2)))))) < (0 : Int))) = false →
          (0 ≤ (idxG d4.2.1 (fun (x1 : Int × Int) => (!(decide (x1.2 ≥ ((List.getD (thr l) (Int.toNat d4.2.2) (0, 0)).2))))))) ∧ ((idxG d4.2.1 (fun (x1 : Int × Int) => (!(decide (x1.2 ≥ ((List.getD (thr l) (Int.toNat d4.2.2) (0, 0)).2)))))) < (List.length d4.2.1)) ∧ (0 ≤ (idxG d4.2.1 (fun (x1 : Int × Int) => (!(decide (x1.2 ≥ ((List.getD (thr l) (Int.toNat d4.2.2) (0, 0)).2))))))) ∧ ((idxG d4.2.1 (fun (x1 : Int × Int) => (!(decide (x1.2 ≥ ((List.getD (thr l) (Int.toNat d4.2.2) (0, 0)).2)))))) < (List.length d4.1)) ∧ (((List.length (List.getD d4.1 (Int.toNat (idxG d4.2.1 (fun (x1 : Int × Int) => (!(decide (x1.2 ≥ ((List.getD (thr l) (Int.toNat d4.2.2) (0, 0)).2))))))) [])) + (List.length [(List.getD (thr l) (Int.toNat d4.2.2) (0, 0)).1])) * 8 ≤ 70368744177664) ∧ ([(List.getD (thr l) (Int.toNat d4.2.2) (0, 0)).1] ≠ []) ∧ (0 ≤ (idxG d4.2.1 (fun (x1 : Int × Int) => (!(decide (x1.2 ≥ ((List.getD (thr l) (Int.toNat d4.2.2) (0, 0)).2))))))) ∧ ((idxG d4.2.1 (fun (x1 : Int × Int) => (!(decide (x1.2 ≥ ((List.getD (thr l) (Int.toNat d4.2.2) (0, 0)).2)))))) < (List.length d4.1)) ∧ (Int.toNat (idxG d4.2.1 (fun (x1 : Int × Int) => (!(decide (x1.2 ≥ ((List.getD (thr l) (Int.toNat d4.2.2) (0, 0)).2))))))) = (Int.toNat (idxG d4.2.1 (fun (x1 : Int × Int) => (!(decide (x1.2 ≥ ((List.getD (thr l) (Int.toNat d4.2.2) (0, 0)).2))))))) ∧ (InK .i64 (d4.2.2 + (1 : Int))) ∧ (∃ d6 : (List (List Int)) × (List (Int × Int)) × Int, ((True ∧ True ∧ True ∧ (((List.length (thr l)) : Nat) : Int) = (((List.length (thr l)) : Nat) : Int) ∧ (d4.2.2 + (1 : Int)) = d6.2.2 ∧ True) ∧ (((List.set d4.1 (Int.toNat (idxG d4.2.1 (fun (x1 : Int × Int) => (!(decide (x1.2 ≥ ((List.getD (thr l) (Int.toNat d4.2.2) (0, 0)).2))))))) ((List.getD d4.1 (Int.toNat (idxG d4.2.1 (fun (x1 : Int × Int) => (!(decide (x1.2 ≥ ((List.getD (thr l) (Int.toNat d4.2.2) (0, 0)).2))))))) []) ++ [(List.getD (thr l) (Int.toNat d4.2.2) (0, 0)).1])) = d6.1 ∧ (List.isEmpty d4.1) = (List.isEmpty d6.1)) ∧ ((List.set d4.2.1 (Int.toNat (idxG d4.2.1 (fun (x1 : Int × Int) => (!(decide (x1.2 ≥ ((List.getD (thr l) (Int.toNat d4.2.2) (0, 0)).2))))))) ((List.getD (thr l) (Int.toNat d4.2.2) (0, 0)).1, (List.getD (thr l) (Int.toNat d4.2.2) (0, 0)).2)) = d6.2.1 ∧ (List.isEmpty d4.2.1) = (List.isEmpty d6.2.1)) ∧ ((thr l) = (thr l) ∧ (List.isEmpty (thr l)) = (List.isEmpty (thr l))) ∧ True)) ∧ q4 d6))) ∧
      ((decide (d4.2.2 < (((List.length (thr l)) : Nat) : Int))) = false →
        ((True ∧ (0 : Int) = aloneErr l ∧ (([] : List SV) = [])) ∧ ((d4.1 = (if aloneErr l = 0 then layersW l else []) ∧ (List.isEmpty d4.1) = (if aloneErr l = 0 then layersW l else []).isEmpty) ∧ True)))) d40)
def cx_eye_Layers : Cx := ⟨[(3, (.i .i64)), (22, (.list (.i .i64))), (98, (.pair (.i .i64) (.i .i64)))], [(52, s_eye_checkDrawing), (53, s_eye_threads), (60, s_slices_IndexFunc_eye_thread_eye_thread), (61, s_eye_Layers_1)], 52, [], 0, [], [], [(22, 3)], [], false⟩
def lp_eye_Layers (l : List Int) : List (Nat × LoopAnn) := [(0, ⟨Unit, (List (List Int)) × (List (Int × Int)) × Int, [2, 5, 15, 16, 17], fun e x => [.dd 34 .out, .lst 31, .lst 15, .val (.i .i64) (((List.length (thr l)) : Nat) : Int), .val (.i .i64) x.2.2], fun e x => [(34, .slot 2, .deep 22 (some 3) (.list (.i .i64)) x.1 (List.isEmpty x.1) none), (31, .slot 5, .lst 98 (.pair (.i .i64) (.i .i64)) x.2.1 (List.isEmpty x.2.1)), (15, .slot 15, .lst 98 (.pair (.i .i64) (.i .i64)) (thr l) (List.isEmpty (thr l)))]⟩)]
set_option maxRecDepth 100000 in
theorem vq_eye_Layers (d : List Int) : gwp (cx_eye_Layers) (lp_eye_Layers d) c27 0 (gend [.tmp 2, .tmp 3] (res_eye_Layers d) (obs_eye_Layers d)) (gstart 52 (AL.can al_eye_Layers d)) = vc_eye_Layers d := by kernel_rfl
abbrev Ok_eye_Layers : Prop := OkC Tryd.prog 27 s_eye_Layers
theorem mk_eye_Layers (h : ∀ (l : List Int), (l.length ≤ 110) → vc_eye_Layers l) : OkC Tryd.prog 27 s_eye_Layers :=
  okC_vc fun27 mixed (C := cx_eye_Layers) (V := fun (d : List Int) => vc_eye_Layers d) ⟨(.cons ok_eye_checkDrawing (.cons ok_eye_threads (.cons ok_slices_IndexFunc_eye_thread_eye_thread (.cons ok_eye_Layers_1 .nil)))), XsOk.nil, ItsOk.nil⟩ (vq_eye_Layers) fun d hp => h d hp
theorem isEmpty_set {α : Type} (l : List α) (i : Nat) (a : α) : (l.set i a).isEmpty = l.isEmpty := by cases l <;> cases i <;> rfl
theorem layF_snoc (t : List (Int × Int)) (a : Int × Int) : layF (t ++ [a]) = layStep (layF t) a := by simp [layF]
theorem layStep_none {s : List (List Int) × List (Int × Int)} {a : Int × Int} (h : s.2.findIdx? (fun x => !(decide (x.2 ≥ a.2))) = none) : layStep s a = (s.1 ++ [[a.1]], s.2 ++ [a]) := by simp only [layStep, h]
theorem layStep_some {s : List (List Int) × List (Int × Int)} {a : Int × Int} {i : Nat} (h : s.2.findIdx? (fun x => !(decide (x.2 ≥ a.2))) = some i) : layStep s a = (s.1.set i (s.1.getD i [] ++ [a.1]), s.2.set i a) := by simp only [layStep, h]
theorem idxG_cases {α : Type} (l : List α) (p : α → Bool) : (l.findIdx? p = none ∧ idxG l p = -1) ∨ ∃ i : Nat, i < l.length ∧ l.findIdx? p = some i ∧ idxG l p = i := by
  cases h : l.findIdx? p with
  | none => left; exact ⟨rfl, by simp [idxG, h]⟩
  | some i => right; exact ⟨i, (List.findIdx?_eq_some_iff_getElem.1 h).1, rfl, by simp [idxG, h]⟩
theorem layF_len (t : List (Int × Int)) : (layF t).1.length = (layF t).2.length ∧ (layF t).2.length ≤ t.length ∧ ∀ x ∈ (layF t).1, x.length ≤ t.length := by
  suffices H : ∀ (t : List (Int × Int)) (s : List (List Int) × List (Int × Int)) (n : Nat), s.1.length = s.2.length → s.2.length ≤ n → (∀ x ∈ s.1, x.length ≤ n) → (t.foldl layStep s).1.length = (t.foldl layStep s).2.length ∧ (t.foldl layStep s).2.length ≤ n + t.length ∧ ∀ x ∈ (t.foldl layStep s).1, x.length ≤ n + t.length by
    have := H t ([], []) 0 rfl (Nat.le_refl _) (fun x hx => by cases hx)
    simpa [layF] using this
  intro t
  induction t with
  | nil => intro s n h1 h2 h3; exact ⟨h1, h2, h3⟩
  | cons a t ih =>
    intro s n h1 h2 h3
    rw [List.foldl_cons, List.length_cons, show n + (t.length + 1) = (n + 1) + t.length by omega]
    rcases idxG_cases s.2 (fun x => !(decide (x.2 ≥ a.2))) with ⟨h, _⟩ | ⟨i, hi, h, _⟩
    · rw [layStep_none h]
      refine ih _ _ (by simp [h1]) (by simp; omega) fun x hx => ?_
      rcases List.mem_append.1 hx with hx | hx
      · have := h3 x hx; omega
      · simp at hx; subst hx; simp
    · rw [layStep_some h]
      refine ih _ _ (by simp [h1]) (by simp; omega) fun x hx => ?_
      rcases List.mem_or_eq_of_mem_set hx with hx | hx
      · have := h3 x hx; omega
      · subst hx
        have hi1 : i < s.1.length := by omega
        have := h3 _ (List.getElem_mem hi1)
        rw [getD_nat hi1, List.length_append]; simp; omega
theorem ok_eye_Layers : Ok_eye_Layers := mk_eye_Layers fun l hl => by
  simp only [vc_eye_Layers, true_and, and_true, exists_const, decide_eq_true_eq, decide_eq_false_iff_not, bne_iff_ne, ne_eq, bne_eq_false_iff_eq, Int.toNat_natCast, Int.ofNat_lt, ge_iff_le, InK_i64]
  refine ⟨by omega, fun he => by simp [he], fun he => ⟨by omega, ?_⟩⟩
  have hTl := thr_len l
  have hL : layersW l = (layF (thr l)).1 := rfl
  simp only [he, if_true, hL]
  generalize thr l = T at *
  refine ⟨([], [], 0), ⟨rfl, ⟨rfl, rfl⟩, ⟨rfl, rfl⟩⟩, ?_⟩
  refine ⟨fun d => ∃ i : Nat, i ≤ T.length ∧ d.2.2 = i ∧ (d.1, d.2.1) = layF (T.take i), fun d => T.length - d.2.2.toNat, ⟨0, Nat.zero_le _, rfl, rfl⟩, ?_⟩
  rintro ⟨lay, ends, _⟩ ⟨i, hi, rfl, hd⟩
  dsimp only at hd ⊢
  obtain ⟨hlen, hle, hrow⟩ := layF_len (T.take i)
  rw [← hd] at hlen hle hrow
  dsimp only at hlen hle hrow
  rw [List.length_take] at hle hrow
  refine ⟨fun hlt => ?_, fun hge => ?_⟩
  · have hlt : i < T.length := by omega
    have hsn : layF (T.take (i + 1)) = layStep (lay, ends) T[i] := by rw [take_succ_eq hlt, layF_snoc, ← hd]
    simp only [Int.toNat_natCast, getD_nat hlt]
    refine ⟨by omega, by omega, ⟨by omega, fun _ _ => trivial⟩, fun hneg => ?_, fun hpos => ?_⟩
    · rcases idxG_cases ends (fun x => !(decide (T[i].2 ≤ x.2))) with ⟨h, _⟩ | ⟨j, hj, h, h2⟩
      · have e1 : (lay ++ [([] : List Int)]).getD lay.length [] = [] := by simp
        have e2 : (lay ++ [([] : List Int)]).set lay.length ([] ++ [T[i].1]) = lay ++ [[T[i].1]] := by simp
        have e3 : (ends ++ [(T[i].1, T[i].2)]).set ends.length (T[i].1, T[i].2) = ends ++ [T[i]] := by simp
        rw [← hlen, e1, e2]
        rw [hlen, e3]
        simp only [List.length_append, List.length_singleton, List.length_nil]
        refine ⟨by omega, by omega, by omega, by omega, by omega, by omega, by omega, by simp, by omega, by omega, by omega, (lay ++ [[T[i].1]], ends ++ [T[i]], (i : Int) + 1), ⟨rfl, ⟨rfl, by simp⟩, ⟨rfl, by simp⟩⟩, ⟨i + 1, by omega, by simp, ?_⟩, by simp; omega⟩
        dsimp only
        rw [hsn, layStep_none h]
      · omega
    · rcases idxG_cases ends (fun x => !(decide (T[i].2 ≤ x.2))) with ⟨h, h2⟩ | ⟨j, hj, h, h2⟩
      · omega
      · rw [h2]
        have hj1 : j < lay.length := by omega
        have hr := hrow _ (List.getElem_mem hj1)
        simp only [Int.toNat_natCast, getD_nat hj1, List.length_singleton]
        refine ⟨by omega, by omega, by omega, by omega, by omega, by simp, by omega, by omega, by omega, (lay.set j (lay[j] ++ [T[i].1]), ends.set j T[i], (i : Int) + 1), ⟨rfl, ⟨rfl, ?_⟩, ⟨rfl, ?_⟩⟩, ⟨i + 1, by omega, by simp, ?_⟩, by simp; omega⟩
        · exact (isEmpty_set _ _ _).symm
        · exact (isEmpty_set _ _ _).symm
        · dsimp only
          rw [hsn, layStep_some h, getD_nat hj1]
  · have : i = T.length := by omega
    subst this
    rw [List.take_length] at hd
    rw [← hd]
    exact ⟨trivial, rfl, rfl⟩
end Go.Proofs.Tryd
set_option linter.unusedVariables false
namespace Go.Proofs.Tryd
open Go Go.V Go.Proofs
theorem putG_len {g : List (List Int)} {i : Nat} {w : Int} : (putG g i w).length = if i = g.length then g.length + 1 else g.length := by
  unfold putG; split <;> simp
theorem layR_fold (l : List Int) (n : Nat) (w : Int) (r : List Int) (g : List (List Int)) : layR l n (w :: r) g = (List.range (g.length + 1)).foldl (fun b i => if eachB l ((putG g i w).getD i []) false then gmin b (layR l n r (putG g i w)) else b) (n + 1) := by
  rw [layR]
end Go.Proofs.Tryd
namespace Go.V
open Go
theorem ret_true {P : Program} {σ : Heap} : Ret P σ (.val .bo true) [] (.bool true) σ :=
  ⟨⟨.refl _, Dead.refl _⟩, fun _ => rfl, noPl, fun j b hj => by simp at hj, fun j j' i hj => by simp at hj, by simp [SR, KC]⟩
theorem okC_true {P : Program} {f : Nat} (h : ∀ (σ : Heap) (K : Value → Heap → Prop), K (.bool true) σ → VCalled P f [] σ K) : OkC P f (mkSp (.nil : AL Unit) (fun _ => True) (fun _ => .val .bo true) (fun _ => [])) := by
  intro ap hap σ args vs c v bs hargs hs hv hbs hc
  unfold mkSp at hs
  split at hs
  · rename_i d hd
    obtain ⟨rfl, rfl, rfl⟩ := (by simpa using hs : True = c ∧ SV.val .bo true = v ∧ [] = bs)
    have : vs = [] := by
      cases args with
      | nil => simpa [SRs] using hargs
      | cons a l => simp [AL.dec] at hd
    subst this
    refine ⟨h σ _ ret_true, fun _ _ => h σ _ ⟨rfl, ?_⟩⟩
    unfold canH
    cases σ
    simp only [List.length_nil, Nat.add_zero, List.getElem?_nil, Option.bind_none, Heap.mk.injEq, and_true]
    funext i
    split
    · rfl
    · rename_i wf hi; exact wf i (by simpa using hi)
  · cases hs
end Go.V
namespace Go.V
open Go
inductive EB where
  | cells (c : List Value) (esz : El) (wr tight : Bool)
  | map (es : List MEnt) (clock : Nat) (wr : Bool)
  | iter (m since : Nat) (seen : List Nat) (last : Nat)
  | lp (st : LoopState) (pend : Option Code)
inductive GT (α : Type) where
  | nil
  | node (v : α) (l r : GT α)
noncomputable def GT.get {α : Type} (d : α) (t : GT α) : Nat → α :=
  GT.rec (motive := fun _ => Nat → α) (fun _ => d)
    (fun v _ _ gl gr i => Bool.rec (motive := fun _ => α) (Bool.rec (motive := fun _ => α) (gr (i / 2 - 1)) (gl (i / 2)) (Nat.beq (i % 2) 1)) v (Nat.beq i 0)) t
noncomputable def GT.set {α : Type} (d : α) (f : Nat) : GT α → Nat → α → GT α :=
  Nat.rec (motive := fun _ => GT α → Nat → α → GT α) (fun t _ _ => t)
    (fun _ ih t i b => GT.rec (motive := fun _ => GT α)
      (Bool.rec (motive := fun _ => GT α) (Bool.rec (motive := fun _ => GT α) (.node d .nil (ih .nil (i / 2 - 1) b)) (.node d (ih .nil (i / 2) b) .nil) (Nat.beq (i % 2) 1)) (.node b .nil .nil) (Nat.beq i 0))
      (fun v l r _ _ => Bool.rec (motive := fun _ => GT α) (Bool.rec (motive := fun _ => GT α) (.node v l (ih r (i / 2 - 1) b)) (.node v (ih l (i / 2) b) r) (Nat.beq (i % 2) 1)) (.node b l r) (Nat.beq i 0)) t) f
theorem GT.get_node {α : Type} (d v : α) (l r : GT α) (k : Nat) : (GT.node v l r).get d k = if k = 0 then v else if k % 2 = 1 then l.get d (k / 2) else r.get d (k / 2 - 1) := by
  show (Bool.rec (motive := fun _ => α) (Bool.rec (motive := fun _ => α) (r.get d (k / 2 - 1)) (l.get d (k / 2)) (Nat.beq (k % 2) 1)) v (Nat.beq k 0)) = _
  by_cases h0 : k = 0
  · subst h0; rfl
  · have : Nat.beq k 0 = false := by
      cases h : Nat.beq k 0 with
      | false => rfl
      | true => exact absurd (Nat.eq_of_beq_eq_true h) h0
    rw [this, if_neg h0]
    by_cases h1 : k % 2 = 1
    · rw [if_pos h1, h1]; rfl
    · have : Nat.beq (k % 2) 1 = false := by
        cases h : Nat.beq (k % 2) 1 with
        | false => rfl
        | true => exact absurd (Nat.eq_of_beq_eq_true h) h1
      rw [this, if_neg h1]
theorem GT.set_node {α : Type} (d v : α) (f : Nat) (l r : GT α) (i : Nat) (b : α) : (GT.node v l r).set d (f + 1) i b = if i = 0 then .node b l r else if i % 2 = 1 then .node v (l.set d f (i / 2) b) r else .node v l (r.set d f (i / 2 - 1) b) := by
  show (Bool.rec (motive := fun _ => GT α) (Bool.rec (motive := fun _ => GT α) (.node v l (r.set d f (i / 2 - 1) b)) (.node v (l.set d f (i / 2) b) r) (Nat.beq (i % 2) 1)) (.node b l r) (Nat.beq i 0)) = _
  by_cases h0 : i = 0
  · subst h0; rfl
  · have : Nat.beq i 0 = false := by
      cases h : Nat.beq i 0 with
      | false => rfl
      | true => exact absurd (Nat.eq_of_beq_eq_true h) h0
    rw [this, if_neg h0]
    by_cases h1 : i % 2 = 1
    · rw [if_pos h1, h1]; rfl
    · have : Nat.beq (i % 2) 1 = false := by
        cases h : Nat.beq (i % 2) 1 with
        | false => rfl
        | true => exact absurd (Nat.eq_of_beq_eq_true h) h1
      rw [this, if_neg h1]
theorem GT.set_nil {α : Type} (d : α) (f i : Nat) (b : α) : (GT.nil : GT α).set d (f + 1) i b = (GT.node d .nil .nil).set d (f + 1) i b := rfl
theorem GT.get_set {α : Type} (d : α) : ∀ (f : Nat) (t : GT α) (i : Nat) (b : α) (j : Nat), i + 1 < 2 ^ f → (t.set d f i b).get d j = if j = i then b else t.get d j := by
  intro f
  induction f with
  | zero => intro t i b j h; simp at h
  | succ f ih =>
    intro t i b j h
    have hp : 2 ^ (f + 1) = 2 * 2 ^ f := by rw [Nat.pow_succ]; omega
    have nodeset : ∀ v l r, ((GT.node v l r).set d (f + 1) i b).get d j = if j = i then b else (GT.node v l r).get d j := by
      intro v l r
      rw [GT.set_node]
      by_cases hi : i = 0
      · subst hi
        rw [if_pos rfl, GT.get_node, GT.get_node]
        split <;> rfl
      · rw [if_neg hi]
        by_cases ho : i % 2 = 1
        · rw [if_pos ho, GT.get_node, GT.get_node, ih _ _ _ _ (by omega)]
          by_cases hj0 : j = 0
          · subst hj0; rw [if_pos rfl, if_neg (Ne.symm hi), if_pos rfl]
          · rw [if_neg hj0, if_neg hj0]
            by_cases hjo : j % 2 = 1
            · rw [if_pos hjo, if_pos hjo]
              by_cases hji : j = i
              · subst hji; simp
              · rw [if_neg hji, if_neg (by omega)]
            · rw [if_neg hjo, if_neg hjo, if_neg (by rintro rfl; exact hjo ho)]
        · rw [if_neg ho, GT.get_node, GT.get_node, ih _ _ _ _ (by omega)]
          by_cases hj0 : j = 0
          · subst hj0; rw [if_pos rfl, if_neg (Ne.symm hi), if_pos rfl]
          · rw [if_neg hj0, if_neg hj0]
            by_cases hjo : j % 2 = 1
            · rw [if_pos hjo, if_pos hjo, if_neg (by rintro rfl; exact ho hjo)]
            · rw [if_neg hjo, if_neg hjo]
              by_cases hji : j = i
              · subst hji; simp
              · rw [if_neg hji, if_neg (by omega)]
    cases t with
    | node v l r => exact nodeset v l r
    | nil =>
      rw [GT.set_nil, nodeset d .nil .nil, GT.get_node]
      split
      · rfl
      · split
        · rfl
        · split <;> rfl
structure CH where
  t : GT (Option EB)
  n : Nat
noncomputable def CH.get (h : CH) (i : Nat) : Option EB := Bool.rec (motive := fun _ => Option EB) none (h.t.get none i) (Nat.blt i h.n)
noncomputable def CH.upd (h : CH) (i : Nat) (b : EB) : CH := ⟨h.t.set none 32 i (some b), h.n⟩
noncomputable def CH.kill (h : CH) (i : Nat) : CH := ⟨h.t.set none 32 i none, h.n⟩
noncomputable def CH.push (h : CH) (b : EB) : CH := ⟨h.t.set none 32 h.n (some b), h.n + 1⟩
def CH.room (h : CH) : Bool := Nat.ble h.n 1000000000
def CH.empty : CH := ⟨.nil, 0⟩
theorem CH.get_lt {h : CH} {i : Nat} (hi : i < h.n) : h.get i = h.t.get none i := by
  unfold CH.get
  rw [show Nat.blt i h.n = true from Nat.ble_eq_true_of_le hi]
theorem CH.get_ge {h : CH} {i : Nat} (hi : h.n ≤ i) : h.get i = none := by
  unfold CH.get
  cases hb : Nat.blt i h.n with
  | false => rfl
  | true => have := Nat.le_of_ble_eq_true hb; omega
theorem CH.get_upd {h : CH} {i : Nat} {b : EB} (hi : i < h.n) (hs : h.n ≤ 1000000001) (j : Nat) : (h.upd i b).get j = if j = i then some b else h.get j := by
  rcases Nat.lt_or_ge j h.n with hj | hj
  · rw [CH.get_lt (h := h.upd i b) hj, CH.get_lt hj]; exact GT.get_set none 32 _ _ _ _ (by omega)
  · rw [CH.get_ge (h := h.upd i b) hj, CH.get_ge hj, if_neg (by omega)]
theorem CH.get_kill {h : CH} {i : Nat} (hi : i < h.n) (hs : h.n ≤ 1000000001) (j : Nat) : (h.kill i).get j = if j = i then none else h.get j := by
  rcases Nat.lt_or_ge j h.n with hj | hj
  · rw [CH.get_lt (h := h.kill i) hj, CH.get_lt hj]; exact GT.get_set none 32 _ _ _ _ (by omega)
  · rw [CH.get_ge (h := h.kill i) hj, CH.get_ge hj]; simp
theorem CH.get_push {h : CH} {b : EB} (hs : h.n ≤ 1000000001) (j : Nat) : (h.push b).get j = if j = h.n then some b else h.get j := by
  rcases Nat.lt_or_ge j (h.n + 1) with hj | hj
  · rw [CH.get_lt (h := h.push b) hj]
    show (h.t.set none 32 h.n (some b)).get none j = _
    rw [GT.get_set none 32 _ _ _ _ (by omega)]
    split
    · rfl
    · rw [CH.get_lt (by omega)]
  · rw [CH.get_ge (h := h.push b) hj, CH.get_ge (by omega), if_neg (by omega)]
def EB.to (q : Env × Loop) : EB → Blk
  | .cells c e w t => .cells c e w t
  | .map es cl w => .obj (.map es cl) w
  | .iter m s sn l => .obj (.iter m s sn l) true
  | .lp st pend => .obj (.lp q.1 q.2 st pend) true
structure CSim (rs : Nat → Env × Loop) (h : CH) (σ : Heap) : Prop where
  n : h.n = σ.n
  sm : h.n ≤ 1000000001
  get : ∀ i, σ.get i = (h.get i).map (EB.to (rs i))
theorem CSim.cells {rs : Nat → Env × Loop} {h : CH} {σ : Heap} (hs : CSim rs h σ) {i : Nat} {c : List Value} {e : El} {w t : Bool} (hg : h.get i = some (.cells c e w t)) : σ.get i = some (.cells c e w t) := by rw [hs.get, hg]; rfl
theorem CSim.map {rs : Nat → Env × Loop} {h : CH} {σ : Heap} (hs : CSim rs h σ) {i : Nat} {es : List MEnt} {cl : Nat} {w : Bool} (hg : h.get i = some (.map es cl w)) : σ.get i = some (.obj (.map es cl) w) := by rw [hs.get, hg]; rfl
theorem CSim.iter {rs : Nat → Env × Loop} {h : CH} {σ : Heap} (hs : CSim rs h σ) {i m s : Nat} {sn : List Nat} {l : Nat} (hg : h.get i = some (.iter m s sn l)) : σ.get i = some (.obj (.iter m s sn l) true) := by rw [hs.get, hg]; rfl
theorem CSim.lp {rs : Nat → Env × Loop} {h : CH} {σ : Heap} (hs : CSim rs h σ) {i : Nat} {st : LoopState} {pend : Option Code} (hg : h.get i = some (.lp st pend)) : σ.get i = some (.obj (.lp (rs i).1 (rs i).2 st pend) true) := by rw [hs.get, hg]; rfl
theorem CSim.lt {rs : Nat → Env × Loop} {h : CH} {σ : Heap} (hs : CSim rs h σ) {i : Nat} {b : EB} (hg : h.get i = some b) : i < h.n := by
  have : σ.get i = some (b.to (rs i)) := by rw [hs.get, hg]; rfl
  rw [hs.n]; exact σ.lt this
theorem CSim.upd {rs : Nat → Env × Loop} {h : CH} {σ : Heap} (hs : CSim rs h σ) {i : Nat} (hi : i < h.n) {b : EB} {b' : Blk} (hb : b.to (rs i) = b') : CSim rs (h.upd i b) (σ.upd i b') := by
  refine ⟨hs.n, hs.sm, fun j => ?_⟩
  rw [CH.get_upd hi hs.sm]
  show (if j = i ∧ i < σ.n then some b' else σ.get j) = _
  by_cases hj : j = i
  · subst hj; rw [if_pos ⟨rfl, by rw [← hs.n]; exact hi⟩, if_pos rfl, ← hb]; rfl
  · rw [if_neg (fun e => hj e.1), if_neg hj]; exact hs.get j
theorem CSim.kill {rs : Nat → Env × Loop} {h : CH} {σ : Heap} (hs : CSim rs h σ) {i : Nat} (hi : i < h.n) : CSim rs (h.kill i) (σ.kill i) := by
  refine ⟨hs.n, hs.sm, fun j => ?_⟩
  rw [CH.get_kill hi hs.sm]
  show (if j = i then none else σ.get j) = _
  by_cases hj : j = i
  · rw [if_pos hj, if_pos hj]; rfl
  · rw [if_neg hj, if_neg hj]; exact hs.get j
theorem CSim.push {rs : Nat → Env × Loop} {h : CH} {σ : Heap} (hs : CSim rs h σ) (hr : h.room = true) {b : EB} {b' : Blk} (hb : b.to (rs h.n) = b') : CSim rs (h.push b) (σ.push b') := by
  have hr : h.n ≤ 1000000000 := Nat.le_of_ble_eq_true hr
  refine ⟨by show h.n + 1 = σ.n + 1; rw [hs.n], by show h.n + 1 ≤ _; omega, fun j => ?_⟩
  rw [CH.get_push hs.sm]
  show (if j = σ.n then some b' else σ.get j) = _
  rw [← hs.n]
  by_cases hj : j = h.n
  · subst hj; rw [if_pos rfl, if_pos rfl, ← hb]; rfl
  · rw [if_neg hj, if_neg hj]; exact hs.get j
theorem CSim.rs {rs rs' : Nat → Env × Loop} {h : CH} {σ : Heap} (hs : CSim rs h σ) (hr : ∀ i, i < h.n → rs' i = rs i) : CSim rs' h σ :=
  ⟨hs.n, hs.sm, fun i => by
    rw [hs.get]
    cases hg : h.get i with
    | none => rfl
    | some b => rw [hr i (hs.lt hg)]⟩
noncomputable def CH.sl (σ : CH) (esz : Nat) : Value → Option (List Value)
  | .slice none 0 0 => some []
  | .slice (some ⟨i, o, none⟩) n _ =>
    match σ.get i with
    | some (.cells c e _ _) => if e.sz = esz ∧ o + n * esz ≤ c.length then some ((c.drop o).take (n * esz)) else none
    | _ => none
  | _ => none
noncomputable def CH.mapAt (σ : CH) (m : Nat) : Option (List MEnt × Nat × Bool) := match σ.get m with
  | some (.map es clock wr) => some (es, clock, wr)
  | _ => none
noncomputable def epush (σ : CH) (b : EB) (v : Value) : Option (Value × CH) := if σ.room = true then some (v, σ.push b) else none
noncomputable def eappend (esz : El) (bytes : Nat) (σ : CH) (s : Value) (m : Nat) (xs : List Value) : Option (Value × CH) :=
  match s with
  | .slice none 0 0 =>
    if m = 0 then some (s, σ) else
    if m * bytes ≤ 2 ^ 46 then epush σ (.cells xs esz true false) (.slice (some ⟨σ.n, 0, none⟩) m m) else none
  | .slice (some ⟨i, o, none⟩) n cap =>
    match σ.get i with
    | some (.cells c e wr tight) =>
      if e = esz ∧ n ≤ cap ∧ o + n * esz.sz ≤ c.length then
        if m = 0 then some (s, σ) else
        if n + m ≤ cap then
          (if wr = true ∧ o + (n + m) * esz.sz ≤ c.length then some (.slice (some ⟨i, o, none⟩) (n + m) cap, σ.upd i (.cells (setL c (o + n * esz.sz) xs) e wr tight)) else none)
        else if (n + m) * bytes ≤ 2 ^ 46 then
          (if tight then epush σ (.cells ((c.drop o).take (n * esz.sz) ++ xs) esz true false) (.slice (some ⟨σ.n, 0, none⟩) (n + m) (n + m))
          else if wr then epush (σ.kill i) (.cells ((c.drop o).take (n * esz.sz) ++ xs) esz true false) (.slice (some ⟨σ.n, 0, none⟩) (n + m) (n + m))
          else none)
        else none
      else none
    | _ => none
  | _ => none
noncomputable def eslice (size : Nat) (σ : CH) (s : Value) (l h : Nat) (m : Option Nat) : Option (Value × CH) :=
  match s with
  | .slice none 0 0 => if l = 0 ∧ h = 0 ∧ (m.getD 0) = 0 then some (.slice none 0 0, σ) else none
  | .slice (some ⟨i, o, none⟩) _ cap =>
    match σ.get i with
    | some (.cells _ e _ _) =>
      match m with
      | none => if e.sz = size ∧ l ≤ h ∧ h ≤ cap then some (.slice (some ⟨i, o + l * size, none⟩) (h - l) (cap - l), σ) else none
      | some m =>
        if e.sz = size ∧ l ≤ h ∧ h ≤ m ∧ m ≤ cap then
          if m = l then epush σ (.cells [] e false true) (.slice (some ⟨σ.n, 0, none⟩) 0 0)
          else some (.slice (some ⟨i, o + l * size, none⟩) (h - l) (m - l), σ)
        else none
    | _ => none
  | _ => none
noncomputable def esame : Nat → Value → Value → CH → Option Bool
  | 0, .pointer none, .pointer none, _ => some true
  | 0, .pointer none, .pointer (some _), _ => some false
  | 0, .pointer (some _), .pointer none, _ => some false
  | 0, .pointer (some ⟨i, o, none⟩), .pointer (some ⟨j, q, none⟩), σ => if i = j ∧ o = q ∧ (σ.get i).isSome = true then some true else none
  | 1, .slice none _ _, .slice none _ _, _ => some true
  | 1, .slice none _ _, .slice (some _) _ _, _ => some false
  | 1, .slice (some _) _ _, .slice none _ _, _ => some false
  | 2, .map none, .map none, _ => some true
  | 2, .map none, .map (some _), _ => some false
  | 2, .map (some _), .map none, _ => some false
  | 3, .nilFunc, .nilFunc, _ => some true
  | 3, .nilFunc, .func _ _ _, _ => some false
  | 3, .func _ _ _, .nilFunc, _ => some false
  | _, _, _, _ => none
noncomputable def exact' (o : XOp) (ev : Operand → Value) (σ : CH) : Option (Value × CH) :=
  match o with
  | .eqNil kd neg x y => match esame kd (ev x) (ev y) σ with | some b => some (.bool (if neg then !b else b), σ) | none => none
  | .makeMap => epush σ (.map [] 0 true) (.map (some σ.n))
  | .lookup mk z ok x i =>
    let k := ev i
    if keyOk mk k then
      match ev x with
      | .map none => some (if ok then .tuple #[z, .bool false] else z, σ)
      | .map (some m) => match σ.mapAt m with
        | some (es, _, _) => if es.all (fun e => keyOk mk e.1) then
            (match mapFind k es with
            | some e => some (if ok then .tuple #[e.2.1, .bool true] else e.2.1, σ)
            | none => some (if ok then .tuple #[z, .bool false] else z, σ)) else none
        | none => none
      | _ => none
    else none
  | .mapUpdate mk m k v => match ev m with
    | .map (some i) => match σ.mapAt i with
      | some (es, clock, true) => if keyOk mk (ev k) && es.all (fun e => keyOk mk e.1) then some (undef, σ.upd i (.map (mapPut (ev k) (ev v) clock es).1 (mapPut (ev k) (ev v) clock es).2 true)) else none
      | _ => none
    | _ => none
  | .lenMap x => match ev x with
    | .map none => some (.int .i64 0, σ)
    | .map (some m) => match σ.mapAt m with
      | some (es, _, _) => some (.int .i64 es.length, σ)
      | none => none
    | _ => none
  | .rangeMap x => match ev x with
    | .map (some m) => match σ.mapAt m with
      | some (_, clock, _) => epush σ (.iter m clock [] clock) (.pointer (some ⟨σ.n, 0, none⟩))
      | none => none
    | _ => none
  | .entry x => match ev x with
    | .pointer (some ⟨i, 0, none⟩) => match σ.get i with
      | some (.iter m _ seen last) => match σ.mapAt m, seen.getLast? with
        | some (es, clock, _), some b => if clock = last then (match es.find? (fun e => e.2.2 == b) with | some e => if plainV e.1 then some (.tuple #[e.1, e.2.1], σ) else none | none => none) else none
        | _, _ => none
      | _ => none
    | _ => none
  | .copy size d s => match ev d, ev s with
    | .slice db dn _, .slice sb sn sc =>
      if min sn dn = 0 then some (.int .i64 0, σ) else
      match db, σ.sl size (.slice sb (min sn dn) sc) with
      | some ⟨i, o, none⟩, some xs => match σ.get i with
        | some (.cells c e wr tight) => if wr = true ∧ e.sz = size ∧ o + xs.length ≤ c.length ∧ xs.all cellOk = true then some (.int .i64 (min sn dn : Nat), σ.upd i (.cells (setL c o xs) e wr tight)) else none
        | _ => none
      | _, _ => none
    | _, _ => none
  | .toUnsafe x => match ev x with
    | .pointer none => some (.pointer none, σ)
    | .pointer (some ⟨i, o, none⟩) => match σ.get i with
      | some (.cells c _ _ _) => if o < c.length then some (.pointer (some ⟨i, o, none⟩), σ) else none
      | _ => none
    | _ => none
  | .fromUnsafe u size x => match ev x with
    | .pointer none => some (.pointer none, σ)
    | .pointer (some ⟨i, o, none⟩) => match σ.get i with
      | some (.cells c e true true) => if o = 0 ∧ e.ty = u ∧ size ≤ c.length then some (.pointer (some ⟨i, o, none⟩), σ) else none
      | _ => none
    | _ => none
  | .sliceData x => match ev x with
    | .slice none _ _ => some (.pointer none, σ)
    | .slice (some ⟨i, o, none⟩) _ cap => if cap ≠ 0 ∧ (σ.get i).isSome = true then some (.pointer (some ⟨i, o, none⟩), σ) else none
    | _ => none
  | .unsafeStr e x n => match ev x, ev n with
    | .pointer p, .int .i64 k =>
      if k = 0 then some (.string ⟨#[]⟩, σ) else
      match p with
      | some ⟨i, o, none⟩ => match σ.get i with
        | some (.cells c el true tight) =>
          if 0 < k ∧ k ≤ 2 ^ 62 ∧ el.ty = e ∧ o + k.toNat ≤ c.length then
            (match vbytes ((c.drop o).take k.toNat) with
            | some s => some (.string s, σ.upd i (.cells c el false tight))
            | none => none) else none
        | _ => none
      | _ => none
    | _, _ => none
  | .bytesStr x => match ev x with
    | .slice a n c => match σ.sl 1 (.slice a n c) with
      | some xs => match vbytes xs with | some s => some (.string s, σ) | none => none
      | none => none
    | _ => none
  | _ => none
def Heap.empty : Heap := ⟨fun _ => none, 0, fun _ _ => rfl⟩
noncomputable def eact (o : VOp) (ev : Operand → Value) (σ : CH) : Option (Value × CH) :=
  match o with
  | .alloc t z => epush σ (.cells z ⟨z.length, t⟩ true true) (.pointer (some ⟨σ.n, 0, none⟩))
  | .box t x => match vcells (ev x) with
    | some vs => epush σ (.cells vs ⟨vs.length, t⟩ true true) (.pointer (some ⟨σ.n, 0, none⟩))
    | none => none
  | .buildSlice esz z len parts => match fillL (repl len z) (parts.map fun p => (p.1 * esz.sz, esz.sz, ev p.2)) with
    | some cs => epush σ (.cells cs esz true true) (.slice (some ⟨σ.n, 0, none⟩) len len)
    | none => none
  | .load agg size a => match ev a with
    | .pointer (some ⟨i, o, none⟩) => match σ.get i with
      | some (.cells c _ _ _) => match vpart agg size c o with | some v => some (v, σ) | none => none
      | _ => none
    | _ => none
  | .store size a v => match ev a, vcells (ev v) with
    | .pointer (some ⟨i, o, none⟩), some vs => match σ.get i with
      | some (.cells c e wr tight) => if wr = true ∧ vs.length = size ∧ o + size ≤ c.length ∧ vs.all cellOk = true then some (undef, σ.upd i (.cells (setL c o vs) e wr tight)) else none
      | _ => none
    | _, _ => none
  | .slice size x lo hi mx =>
    match ev x with
    | .slice a n cap =>
      match vbound ev lo 0, vbound ev hi n, mx with
      | some l, some h, none => eslice size σ (.slice a n cap) l h none
      | some l, some h, some _ => match vbound ev mx 0, hi with
        | some m, some _ => eslice size σ (.slice a n cap) l h (some m)
        | _, _ => none
      | _, _, _ => none
    | _ => none
  | .makeSlice esz bytes z l c =>
    match ev l, ev c with
    | .int _ a, .int _ b => if 0 ≤ a ∧ a ≤ b ∧ b * bytes ≤ 2 ^ 46 ∧ b ≤ 2 ^ 46 then epush σ (.cells (repl b.toNat z) esz true true) (.slice (some ⟨σ.n, 0, none⟩) a.toNat b.toNat) else none
    | _, _ => none
  | .append esz bytes s x =>
    match σ.sl esz.sz (ev x), ev x with
    | some xs, .slice _ m _ => if xs.all cellOk then eappend esz bytes σ (ev s) m xs else none
    | _, _ => none
  | .ext o => exact' o ev σ
  | o => if o.kind = 0 then (match vact o ev Heap.empty with | some p => some (p.1, σ) | none => none) else none
def ESnd (rs : Nat → Env × Loop) (h : CH) (_σ : Heap) (r : Option (Value × Heap)) (p : Value × CH) : Prop := h.n ≤ p.2.n ∧ ∃ σ', r = some (p.1, σ') ∧ CSim rs p.2 σ'
theorem ESnd.same {rs : Nat → Env × Loop} {h : CH} {σ : Heap} (hs : CSim rs h σ) {r : Option (Value × Heap)} {v : Value} (hr : r = some (v, σ)) : ESnd rs h σ r (v, h) := ⟨Nat.le_refl _, σ, hr, hs⟩
theorem ESnd.upd {rs : Nat → Env × Loop} {h : CH} {σ : Heap} (hs : CSim rs h σ) {r : Option (Value × Heap)} {v : Value} {i : Nat} {b : EB} {b0 : EB} (hg : h.get i = some b0) {b' : Blk} (hb : b.to (rs i) = b') (hr : r = some (v, σ.upd i b')) : ESnd rs h σ r (v, h.upd i b) := by
  have hi := hs.lt hg
  have hsm := hs.sm
  exact ⟨Nat.le_refl _, _, hr, hs.upd hi hb⟩
theorem ESnd.push {rs : Nat → Env × Loop} {h : CH} {σ : Heap} (hs : CSim rs h σ) {r : Option (Value × Heap)} {v : Value} {p : Value × CH} {b : EB} (hp : epush h b v = some p) {b' : Blk} (hb : b.to (rs h.n) = b') (hr : r = some (v, σ.push b')) : ESnd rs h σ r p := by
  unfold epush at hp
  split at hp
  · rename_i hroom
    obtain rfl := Option.some.inj hp
    have hsm := hs.sm
    exact ⟨Nat.le_succ _, _, hr, hs.push hroom hb⟩
  · cases hp
theorem CSim.sl {rs : Nat → Env × Loop} {h : CH} {σ : Heap} (hs : CSim rs h σ) {esz : Nat} {v : Value} {xs : List Value} (hx : h.sl esz v = some xs) : σ.sl esz v = some xs := by
  unfold CH.sl at hx
  unfold Heap.sl
  split at hx
  · exact hx
  · rename_i i o n c
    split at hx
    · rename_i cs e wr t hb
      simp only [hs.cells hb]
      exact hx
    · cases hx
  · cases hx
theorem CSim.mapAt {rs : Nat → Env × Loop} {h : CH} {σ : Heap} (hs : CSim rs h σ) {m : Nat} {x : List MEnt × Nat × Bool} (hx : h.mapAt m = some x) : σ.mapAt m = some x ∧ h.get m = some (.map x.1 x.2.1 x.2.2) := by
  unfold CH.mapAt at hx
  unfold Heap.mapAt
  split at hx
  · rename_i es clock wr hb
    obtain rfl := Option.some.inj hx
    exact ⟨by simp only [hs.map hb], hb⟩
  · cases hx
theorem esame_sound {rs : Nat → Env × Loop} {h : CH} {σ : Heap} (hs : CSim rs h σ) {kd : Nat} {a b : Value} {r : Bool} (hx : esame kd a b h = some r) : sameNil kd a b σ = some r := by
  unfold esame at hx
  unfold sameNil
  split at hx <;> first
    | exact hx
    | (cases hx; done)
    | skip
  rename_i i o j q
  split at hx
  · rename_i hc
    obtain ⟨h1, h2, h3⟩ := hc
    have hc' : i = j ∧ o = q ∧ (σ.get i).isSome = true := ⟨h1, h2, by rw [hs.get]; simpa using h3⟩
    simp only [if_pos hc']; exact hx
  · cases hx
theorem eappend_sound {rs : Nat → Env × Loop} {h : CH} {σ : Heap} (hs : CSim rs h σ) {esz : El} {bytes : Nat} {s : Value} {m : Nat} {xs : List Value} {p : Value × CH} (hx : eappend esz bytes h s m xs = some p) : ESnd rs h σ (vappend esz bytes σ s m xs) p := by
  unfold eappend at hx
  unfold vappend
  split at hx
  · split at hx
    · rename_i hm; simp only [if_pos hm]; obtain rfl := Option.some.inj hx; exact .same hs rfl
    · rename_i hm; simp only [if_neg hm]
      split at hx
      · rename_i hb; simp only [if_pos hb]; rw [hs.n] at hx; exact .push hs hx rfl rfl
      · cases hx
  · rename_i i o n cap
    split at hx
    · rename_i c e wr tight hg
      have hsm := hs.sm
      have hi := hs.lt hg
      simp only [hs.cells hg]
      split at hx
      · rename_i h1; simp only [if_pos h1]
        split at hx
        · rename_i h2; simp only [if_pos h2]; obtain rfl := Option.some.inj hx; exact .same hs rfl
        · rename_i h2; simp only [if_neg h2]
          split at hx
          · rename_i h3; simp only [if_pos h3]
            split at hx
            · rename_i h4; simp only [if_pos h4]; obtain rfl := Option.some.inj hx; exact .upd hs hg rfl rfl
            · cases hx
          · rename_i h3; simp only [if_neg h3]
            split at hx
            · rename_i h4; simp only [if_pos h4]
              split at hx
              · rename_i h5; simp only [if_pos h5]; rw [hs.n] at hx; exact .push hs hx rfl rfl
              · rename_i h5; simp only [if_neg h5]
                split at hx
                · rename_i h6; simp only [if_pos h6]
                  rw [hs.n] at hx
                  have hk := hs.kill hi
                  obtain ⟨k1, σ', k2, k3⟩ := ESnd.push (r := some (.slice (some ⟨σ.n, 0, none⟩) (n + m) (n + m), (σ.kill i).push (.cells ((c.drop o).take (n * esz.sz) ++ xs) esz true false))) hk hx rfl rfl
                  exact ⟨k1, σ', k2, k3⟩
                · cases hx
            · cases hx
      · cases hx
    · cases hx
  · cases hx
theorem eslice_sound {rs : Nat → Env × Loop} {h : CH} {σ : Heap} (hs : CSim rs h σ) {size : Nat} {s : Value} {l k : Nat} {m : Option Nat} {p : Value × CH} (hx : eslice size h s l k m = some p) : ESnd rs h σ (vslice size σ s l k m) p := by
  unfold eslice at hx
  unfold vslice
  split at hx
  · split at hx
    · rename_i hm; simp only [if_pos hm]; obtain rfl := Option.some.inj hx; exact .same hs rfl
    · cases hx
  · rename_i i o n cap
    split at hx
    · rename_i c e wr tight hg
      simp only [hs.cells hg]
      split at hx
      · split at hx
        · rename_i h1; simp only [if_pos h1]; obtain rfl := Option.some.inj hx; exact .same hs rfl
        · cases hx
      · split at hx
        · rename_i h1; simp only [if_pos h1]
          split at hx
          · rename_i h2; simp only [if_pos h2]; rw [hs.n] at hx; exact .push hs hx rfl rfl
          · rename_i h2; simp only [if_neg h2]; obtain rfl := Option.some.inj hx; exact .same hs rfl
        · cases hx
    · cases hx
  · cases hx
theorem exact_sound {rs : Nat → Env × Loop} {h : CH} {σ : Heap} (hs : CSim rs h σ) {o : XOp} {ev : Operand → Value} {p : Value × CH} (hx : exact' o ev h = some p) : ESnd rs h σ (xact o ev σ) p := by
  cases o
  case eqNil kd neg x y =>
    simp only [exact'] at hx
    simp only [xact]
    split at hx
    · rename_i b hb; rw [esame_sound hs hb]; obtain rfl := Option.some.inj hx; exact .same hs rfl
    · cases hx
  case makeMap =>
    simp only [exact'] at hx
    simp only [xact]
    rw [hs.n] at hx; exact .push hs hx rfl rfl
  case lookup mk z ok x i =>
    simp only [exact'] at hx
    simp only [xact]
    generalize ev x = q0 at hx ⊢
    generalize ev i = q1 at hx ⊢
    split at hx
    · rename_i hk; simp only [if_pos hk]
      split at hx
      · obtain rfl := Option.some.inj hx; exact .same hs rfl
      · rename_i m hm
        split at hx
        · rename_i es cl wr hma
          obtain ⟨k1, k2⟩ := hs.mapAt hma
          simp only [k1]
          split at hx
          · rename_i hall; simp only [if_pos hall]
            split at hx
            · rename_i e hf; simp only [hf]; obtain rfl := Option.some.inj hx; exact .same hs rfl
            · rename_i hf; simp only [hf]; obtain rfl := Option.some.inj hx; exact .same hs rfl
          · cases hx
        · cases hx
      · cases hx
    · cases hx
  case mapUpdate mk m k v =>
    simp only [exact'] at hx
    simp only [xact]
    generalize ev m = q0 at hx ⊢
    split at hx
    · rename_i i hi
      split at hx
      · rename_i es cl hma
        obtain ⟨k1, k2⟩ := hs.mapAt hma
        simp only [k1]
        split at hx
        · rename_i hc; simp only [if_pos hc]; obtain rfl := Option.some.inj hx; exact .upd hs k2 rfl rfl
        · cases hx
      · cases hx
    · cases hx
  case delete => cases hx
  case lenMap x =>
    simp only [exact'] at hx
    simp only [xact]
    generalize ev x = q0 at hx ⊢
    split at hx
    · obtain rfl := Option.some.inj hx; exact .same hs rfl
    · split at hx
      · rename_i es cl wr hma
        obtain ⟨k1, k2⟩ := hs.mapAt hma
        simp only [k1]
        obtain rfl := Option.some.inj hx; exact .same hs rfl
      · cases hx
    · cases hx
  case rangeMap x =>
    simp only [exact'] at hx
    simp only [xact]
    generalize ev x = q0 at hx ⊢
    split at hx
    · split at hx
      · rename_i es cl wr hma
        obtain ⟨k1, k2⟩ := hs.mapAt hma
        simp only [k1]
        rw [hs.n] at hx; exact .push hs hx rfl rfl
      · cases hx
    · cases hx
  case nextMap => cases hx
  case entry x =>
    simp only [exact'] at hx
    simp only [xact]
    generalize ev x = q0 at hx ⊢
    split at hx
    · split at hx
      · rename_i m since seen last hg
        simp only [hs.iter hg]
        split at hx
        · rename_i es clock wr b hma hlast
          obtain ⟨k1, _⟩ := hs.mapAt hma
          simp only [k1, hlast]
          split at hx
          · rename_i hc; rw [if_pos hc]
            split at hx
            · rename_i e hf
              split at hx
              · rename_i hp; rw [hf]; simp only [hp, if_true]; obtain rfl := Option.some.inj hx; exact .same hs rfl
              · cases hx
            · cases hx
          · cases hx
        · cases hx
      · cases hx
    · cases hx
  case copy size d s =>
    simp only [exact'] at hx
    simp only [xact]
    generalize ev d = q0 at hx ⊢
    generalize ev s = q1 at hx ⊢
    split at hx
    · rename_i db dn dc sb sn sc h1 h2
      split at hx
      · rename_i hm; simp only [if_pos hm]; obtain rfl := Option.some.inj hx; exact .same hs rfl
      · rename_i hm; simp only [if_neg hm]
        split at hx
        · rename_i i o xs hxs
          simp only [hs.sl hxs]
          split at hx
          · rename_i c e wr tight hg
            simp only [hs.cells hg]
            split at hx
            · rename_i hc; simp only [if_pos hc]; obtain rfl := Option.some.inj hx; exact .upd hs hg rfl rfl
            · cases hx
          · cases hx
        · cases hx
    · cases hx
  case toUnsafe x =>
    simp only [exact'] at hx
    simp only [xact]
    generalize ev x = q0 at hx ⊢
    split at hx
    · obtain rfl := Option.some.inj hx; exact .same hs rfl
    · split at hx
      · rename_i c e wr tight hg
        simp only [hs.cells hg]
        split at hx
        · rename_i hc; simp only [if_pos hc]; obtain rfl := Option.some.inj hx; exact .same hs rfl
        · cases hx
      · cases hx
    · cases hx
  case fromUnsafe u size x =>
    simp only [exact'] at hx
    simp only [xact]
    generalize ev x = q0 at hx ⊢
    split at hx
    · obtain rfl := Option.some.inj hx; exact .same hs rfl
    · split at hx
      · rename_i c e hg
        simp only [hs.cells hg]
        split at hx
        · rename_i hc; simp only [if_pos hc]; obtain rfl := Option.some.inj hx; exact .same hs rfl
        · cases hx
      · cases hx
    · cases hx
  case sliceData x =>
    simp only [exact'] at hx
    simp only [xact]
    generalize ev x = q0 at hx ⊢
    split at hx
    · obtain rfl := Option.some.inj hx; exact .same hs rfl
    · rename_i i o n cap
      split at hx
      · rename_i hc
        simp only [if_pos (show cap ≠ 0 ∧ (σ.get i).isSome = true from ⟨hc.1, by rw [hs.get]; simpa using hc.2⟩)]
        obtain rfl := Option.some.inj hx; exact .same hs rfl
      · cases hx
    · cases hx
  case unsafeStr e x n =>
    simp only [exact'] at hx
    simp only [xact]
    generalize ev x = q0 at hx ⊢
    generalize ev n = q1 at hx ⊢
    split at hx
    · rename_i q k h1 h2
      split at hx
      · rename_i hk; simp only [if_pos hk]; obtain rfl := Option.some.inj hx; exact .same hs rfl
      · rename_i hk; simp only [if_neg hk]
        split at hx
        · rename_i i o
          split at hx
          · rename_i c el tight hg
            simp only [hs.cells hg]
            split at hx
            · rename_i hc; simp only [if_pos hc]
              split at hx
              · rename_i u hu; simp only [hu]; obtain rfl := Option.some.inj hx; exact .upd hs hg rfl rfl
              · cases hx
            · cases hx
          · cases hx
        · cases hx
    · cases hx
  case bytesStr x =>
    simp only [exact'] at hx
    simp only [xact]
    generalize ev x = q0 at hx ⊢
    split at hx
    · split at hx
      · rename_i xs hxs
        simp only [hs.sl hxs]
        split at hx
        · rename_i u hu; simp only [hu]; obtain rfl := Option.some.inj hx; exact .same hs rfl
        · cases hx
      · cases hx
    · cases hx
theorem eact_pure {rs : Nat → Env × Loop} {h : CH} {σ : Heap} (hs : CSim rs h σ) {o : VOp} {ev : Operand → Value} {p : Value × CH}
    (hx : (if o.kind = 0 then (match vact o ev Heap.empty with | some p => some (p.1, h) | none => none) else none) = some p) : ESnd rs h σ (vact o ev σ) p := by
  split at hx
  · rename_i hk
    split at hx
    · rename_i q hq
      obtain rfl := Option.some.inj hx
      exact .same hs (vact_pure hk (v := q.1) (σ1 := q.2) hq)
    · cases hx
  · cases hx
theorem eact_sound {rs : Nat → Env × Loop} {h : CH} {σ : Heap} (hs : CSim rs h σ) {o : VOp} {ev : Operand → Value} {p : Value × CH} (hx : eact o ev h = some p) : ESnd rs h σ (vact o ev σ) p := by
  cases o
  case alloc t z =>
    simp only [eact] at hx
    simp only [vact]
    rw [hs.n] at hx; exact .push hs hx rfl rfl
  case box t x =>
    simp only [eact] at hx
    simp only [vact]
    generalize vcells (ev x) = q0 at hx ⊢
    split at hx
    · rw [hs.n] at hx; exact .push hs hx rfl rfl
    · cases hx
  case buildSlice esz z len parts =>
    simp only [eact] at hx
    simp only [vact]
    generalize fillL (repl len z) (parts.map fun p => (p.1 * esz.sz, esz.sz, ev p.2)) = q0 at hx ⊢
    split at hx
    · rw [hs.n] at hx; exact .push hs hx rfl rfl
    · cases hx
  case load agg size a =>
    simp only [eact] at hx
    simp only [vact]
    generalize ev a = q0 at hx ⊢
    split at hx
    · split at hx
      · rename_i c e wr tight hg
        simp only [hs.cells hg]
        split at hx
        · rename_i u hu; simp only [hu]; obtain rfl := Option.some.inj hx; exact .same hs rfl
        · cases hx
      · cases hx
    · cases hx
  case store size a v =>
    simp only [eact] at hx
    simp only [vact]
    generalize vcells (ev v) = q0 at hx ⊢
    generalize ev a = q1 at hx ⊢
    split at hx
    · rename_i i o vs h1 h2
      split at hx
      · rename_i c e wr tight hg
        simp only [hs.cells hg]
        split at hx
        · rename_i hc; simp only [if_pos hc]; obtain rfl := Option.some.inj hx; exact .upd hs hg rfl rfl
        · cases hx
      · cases hx
    · cases hx
  case slice size x lo hi mx =>
    simp only [eact] at hx
    simp only [vact]
    generalize ev x = q0 at hx ⊢
    split at hx
    · rename_i a n cap
      dsimp only
      generalize vbound ev lo 0 = q1 at hx ⊢
      generalize vbound ev hi n = q2 at hx ⊢
      split at hx
      · exact eslice_sound hs hx
      · rename_i l k m
        dsimp only
        generalize vbound ev (some m) 0 = q3 at hx ⊢
        split at hx
        · exact eslice_sound hs hx
        · cases hx
      · cases hx
    · cases hx
  case makeSlice esz bytes z l c =>
    simp only [eact] at hx
    simp only [vact]
    generalize ev l = q0 at hx ⊢
    generalize ev c = q1 at hx ⊢
    split at hx
    · split at hx
      · rename_i hc; simp only [if_pos hc]; rw [hs.n] at hx; exact .push hs hx rfl rfl
      · cases hx
    · cases hx
  case append esz bytes s x =>
    simp only [eact] at hx
    simp only [vact]
    generalize ev x = q0 at hx ⊢
    split at hx
    · rename_i hxs
      simp only [hs.sl hxs]
      split at hx
      · rename_i hc; simp only [if_pos hc]; exact eappend_sound hs hx
      · cases hx
    · cases hx
  case ext o => exact exact_sound hs hx
  all_goals exact eact_pure hs hx
def wrapF (k : IntKind) (n : Int) : Int := match n with
  | .ofNat x => match Nat.ble x 127 with
    | true => .ofNat x
    | false => k.wrap (.ofNat x)
  | .negSucc x => k.wrap (.negSucc x)
theorem wrapF_eq (k : IntKind) (n : Int) : wrapF k n = k.wrap n := by
  cases n with
  | negSucc x => rfl
  | ofNat x =>
    simp only [wrapF]
    split
    · rename_i h
      have hx : x ≤ 127 := Nat.le_of_ble_eq_true h
      show (x : Int) = k.wrap (x : Int)
      cases k <;> simp [IntKind.wrap, IntKind.bits, IntKind.signed] <;> omega
    · rfl
def pPick (c a b : Value) : Option Value := match c with | .bool t => some (if t then a else b) | _ => none
def pArith (op : BinOp) (x y : Value) : Option Value := match x, y with | .int k a, .int k' b => if k = k' then some (.int k (match op with | .add => wrapF k (a + b) | .sub => wrapF k (a - b) | _ => wrapF k (a * b))) else none | _, _ => none
def pDiv (op : BinOp) (x y : Value) : Option Value := match x, y with | .int k a, .int k' b => if k = k' ∧ b ≠ 0 then some (.int k (vdiv op k a b)) else none | _, _ => none
def pBits (op : BinOp) (x y : Value) : Option Value := match x, y with | .int k a, .int k' b => if k = k' then some (.int k (vbits op k a b)) else none | _, _ => none
def pShift (op : BinOp) (x y : Value) : Option Value := match x, y with | .int k a, .int _ b => if 0 ≤ b then some (.int k (vshift op k a b)) else none | _, _ => none
def pCmp (op : BinOp) (x y : Value) : Option Value := match x, y with | .int k a, .int k' b => if k = k' then some (.bool (vcmp op a b)) else none | _, _ => none
def pStr (op : BinOp) (x y : Value) : Option Value := match x, y with
    | .string a, .string b => match op with
      | .add => if a.size + b.size ≤ 2 ^ 62 then some (.string (a ++ b)) else none
      | .eql => some (.bool (a.data.toList == b.data.toList))
      | .neq => some (.bool (!(a.data.toList == b.data.toList)))
      | .lss => some (.bool (Op.bytesLess a.data.toList b.data.toList))
      | _ => none
    | _, _ => none
def pEqB (neg : Bool) (x y : Value) : Option Value := match x, y with | .bool a, .bool b => some (.bool (if neg then !(a == b) else (a == b))) | _, _ => none
def pUn (op : UnOp) (x : Value) : Option Value := match op, x with
    | .not, .bool b => some (.bool (!b))
    | .neg, .int k n => some (.int k (k.wrap (0 - n)))
    | .xor, .int k n => some (.int k (vbits .xor k (if k.signed then -1 else k.max) n))
    | _, _ => none
def pConvI (k : IntKind) (x : Value) : Option Value := match x with | .int _ n => some (.int k (wrapF k n)) | _ => none
def pConvS (x : Value) : Option Value := match x with | .string s => some (.string s) | _ => none
def pBuild (z : List Value) (l : List (Nat × Nat × Value)) : Option Value := match fillL z l with | some cs => some (.agg cs.toArray) | none => none
def pFieldAddr (off : Nat) (a : Value) : Option Value := match a with
    | .pointer (some ⟨i, o, none⟩) => some (.pointer (some ⟨i, o + off, none⟩))
    | _ => none
def pField (agg : Bool) (off size : Nat) (x : Value) : Option Value := match x with
    | .agg cs => vpart agg size cs.toList off
    | _ => none
def pIndexAddr (size : Nat) (x i : Value) : Option Value := match x, i with
    | .slice (some ⟨b, o, none⟩) n _, .int _ k => if 0 ≤ k ∧ k < n then some (.pointer (some ⟨b, o + k.toNat * size, none⟩)) else none
    | _, _ => none
def pIndexAddrArr (len size : Nat) (x i : Value) : Option Value := match x, i with
    | .pointer (some ⟨b, o, none⟩), .int _ k => if 0 ≤ k ∧ k < len then some (.pointer (some ⟨b, o + k.toNat * size, none⟩)) else none
    | _, _ => none
def pIndexStr (x i : Value) : Option Value := match x, i with
    | .string s, .int _ k => if 0 ≤ k then (match s.data.toList[k.toNat]? with | some b => some (.int .u8 b.toNat) | none => none) else none
    | _, _ => none
def pIndexArr (len : Nat) (agg : Bool) (size : Nat) (x i : Value) : Option Value := match x, i with
    | .agg cs, .int _ k => if 0 ≤ k ∧ k < len then vpart agg size cs.toList (k.toNat * size) else none
    | _, _ => none
def pSliceStr (ev : Operand → Value) (x : Value) (lo hi : Option Operand) : Option Value := match x with
    | .string s =>
      match vbound ev lo 0, vbound ev hi s.size with
      | some l, some h => if l ≤ h ∧ h ≤ s.size then some (.string (s.extract l h)) else none
      | _, _ => none
    | _ => none
def pLen (x : Value) : Option Value := match x with | .slice _ n _ => some (.int .i64 n) | _ => none
def pLenStr (x : Value) : Option Value := match x with | .string s => some (.int .i64 s.size) | _ => none
def pMax (x y : Value) : Option Value := match x, y with | .int k a, .int k' b => if k = k' then some (.int k (if b > a then b else a)) else none | _, _ => none
def pMin (x y : Value) : Option Value := match x, y with | .int k a, .int k' b => if k = k' then some (.int k (if b < a then b else a)) else none | _, _ => none
def pIface (t : TypeId) (x : Value) : Option Value := match x with | .chan _ => none | v => some (.iface t v)
def pExtract (i : Nat) (x : Value) : Option Value := match x with
    | .tuple vs => vs.toList[i]?
    | _ => none
def pNilCheck (x : Value) : Option Value := match x with
    | .pointer (some a) => some (.pointer (some a))
    | .func (.func f) first cap => some (.func (.func f) first cap)
    | _ => none
def ppp (r : Option Value) (σ : CH) : Option (Value × CH) := match r with | some v => some (v, σ) | none => none
noncomputable def eBox (t : Nat) (x : Value) (σ : CH) : Option (Value × CH) := match vcells x with
    | some vs => epush σ (.cells vs ⟨vs.length, t⟩ true true) (.pointer (some ⟨σ.n, 0, none⟩))
    | none => none
noncomputable def eBuildSlice (esz : El) (z : List Value) (len : Nat) (l : List (Nat × Nat × Value)) (σ : CH) : Option (Value × CH) := match fillL (repl len z) l with
    | some cs => epush σ (.cells cs esz true true) (.slice (some ⟨σ.n, 0, none⟩) len len)
    | none => none
noncomputable def eLoad (agg : Bool) (size : Nat) (a : Value) (σ : CH) : Option (Value × CH) := match a with
    | .pointer (some ⟨i, o, none⟩) => match σ.get i with
      | some (.cells c _ _ _) => match vpart agg size c o with | some v => some (v, σ) | none => none
      | _ => none
    | _ => none
def stL (c : List Value) (o : Nat) (vs : List Value) : List Value := match vs with
  | [v] => c.set o v
  | vs => c.take o ++ (vs ++ c.drop (o + vs.length))
theorem setL_app : ∀ (vs a b c : List Value), vs.length = b.length → setL (a ++ (b ++ c)) a.length vs = a ++ (vs ++ c)
  | [], a, b, c, h => by
    have : b = [] := List.eq_nil_of_length_eq_zero (by simpa using h.symm)
    subst this; rfl
  | v :: vs, a, [], c, h => by simp at h
  | v :: vs, a, x :: b, c, h => by
    simp only [setL]
    have e : (a ++ (x :: b ++ c)).set a.length v = (a ++ [v]) ++ (b ++ c) := by simp
    rw [e]
    have := setL_app vs (a ++ [v]) b c (by simpa using h)
    rw [List.length_append, List.length_singleton] at this
    rw [this]; simp
theorem stL_eq {c : List Value} {o : Nat} {vs : List Value} (h : o + vs.length ≤ c.length) : stL c o vs = setL c o vs := by
  unfold stL
  split
  · rfl
  · have h1 : c = c.take o ++ ((c.drop o).take vs.length ++ c.drop (o + vs.length)) := by
      rw [← List.drop_drop, List.take_append_drop, List.take_append_drop]
    have h2 : (c.take o).length = o := by simp; omega
    have := setL_app vs (c.take o) ((c.drop o).take vs.length) (c.drop (o + vs.length)) (by simp; omega)
    rw [h2, ← h1] at this
    exact this.symm
noncomputable def eStore (size : Nat) (a v : Value) (σ : CH) : Option (Value × CH) := match a, vcells v with
    | .pointer (some ⟨i, o, none⟩), some vs => match σ.get i with
      | some (.cells c e wr tight) => if wr = true ∧ vs.length = size ∧ o + size ≤ c.length ∧ vs.all cellOk = true then some (undef, σ.upd i (.cells (stL c o vs) e wr tight)) else none
      | _ => none
    | _, _ => none
noncomputable def eMakeSlice (esz : El) (bytes : Nat) (z : List Value) (l c : Value) (σ : CH) : Option (Value × CH) :=
    match l, c with
    | .int _ a, .int _ b => if 0 ≤ a ∧ a ≤ b ∧ b * bytes ≤ 2 ^ 46 ∧ b ≤ 2 ^ 46 then epush σ (.cells (repl b.toNat z) esz true true) (.slice (some ⟨σ.n, 0, none⟩) a.toNat b.toNat) else none
    | _, _ => none
noncomputable def eApp (esz : El) (bytes : Nat) (s x : Value) (σ : CH) : Option (Value × CH) :=
    match σ.sl esz.sz x, x with
    | some xs, .slice _ m _ => if xs.all cellOk then eappend esz bytes σ s m xs else none
    | _, _ => none
noncomputable def eactF (o : VOp) (ev : Operand → Value) (σ : CH) : Option (Value × CH) :=
  match o with
  | .move x => some (ev x, σ)
  | .pick c a b => ppp (pPick (ev c) (ev a) (ev b)) σ
  | .arith op x y => ppp (pArith op (ev x) (ev y)) σ
  | .div op x y => ppp (pDiv op (ev x) (ev y)) σ
  | .bits op x y => ppp (pBits op (ev x) (ev y)) σ
  | .shift op x y => ppp (pShift op (ev x) (ev y)) σ
  | .cmp op x y => ppp (pCmp op (ev x) (ev y)) σ
  | .str op x y => ppp (pStr op (ev x) (ev y)) σ
  | .eqB n x y => ppp (pEqB n (ev x) (ev y)) σ
  | .un op x => ppp (pUn op (ev x)) σ
  | .convI k x => ppp (pConvI k (ev x)) σ
  | .convS x => ppp (pConvS (ev x)) σ
  | .build z parts => ppp (pBuild z (parts.map fun p => (p.1, p.2.1, ev p.2.2))) σ
  | .fieldAddr off a => ppp (pFieldAddr off (ev a)) σ
  | .field agg off size x => ppp (pField agg off size (ev x)) σ
  | .indexAddr size x i => ppp (pIndexAddr size (ev x) (ev i)) σ
  | .indexAddrArr len size x i => ppp (pIndexAddrArr len size (ev x) (ev i)) σ
  | .indexStr x i => ppp (pIndexStr (ev x) (ev i)) σ
  | .indexArr len agg size x i => ppp (pIndexArr len agg size (ev x) (ev i)) σ
  | .sliceStr x lo hi => ppp (pSliceStr ev (ev x) lo hi) σ
  | .len x => ppp (pLen (ev x)) σ
  | .lenStr x => ppp (pLenStr (ev x)) σ
  | .max x y => ppp (pMax (ev x) (ev y)) σ
  | .min x y => ppp (pMin (ev x) (ev y)) σ
  | .makeFunc fn first cap => some (.func fn (first.map ev).toArray (cap.map ev).toArray, σ)
  | .iface t x => ppp (pIface t (ev x)) σ
  | .extract x i => ppp (pExtract i (ev x)) σ
  | .nilCheck x => ppp (pNilCheck (ev x)) σ
  | .alloc t z => epush σ (.cells z ⟨z.length, t⟩ true true) (.pointer (some ⟨σ.n, 0, none⟩))
  | .box t x => eBox t (ev x) σ
  | .buildSlice esz z len parts => eBuildSlice esz z len (parts.map fun p => (p.1 * esz.sz, esz.sz, ev p.2)) σ
  | .load agg size a => eLoad agg size (ev a) σ
  | .store size a v => eStore size (ev a) (ev v) σ
  | .slice size x lo hi mx => eact (.slice size x lo hi mx) ev σ
  | .makeSlice esz bytes z l c => eMakeSlice esz bytes z (ev l) (ev c) σ
  | .append esz bytes s x => eApp esz bytes (ev s) (ev x) σ
  | .ext o => exact' o ev σ
  | _ => none
theorem ppp_sound {rs : Nat → Env × Loop} {h : CH} {σ : Heap} (hs : CSim rs h σ) {r : Option Value} {r' : Option (Value × Heap)} {p : Value × CH} (hr : ∀ v, r = some v → r' = some (v, σ)) (hx : ppp r h = some p) : ESnd rs h σ r' p := by
  unfold ppp at hx
  split at hx
  · rename_i v
    obtain rfl := Option.some.inj hx
    exact .same hs (hr v rfl)
  · cases hx
theorem eactF_sound {rs : Nat → Env × Loop} {h : CH} {σ : Heap} (hs : CSim rs h σ) {o : VOp} {ev : Operand → Value} {p : Value × CH} (hx : eactF o ev h = some p) : ESnd rs h σ (vact o ev σ) p := by
  cases o
  case move x => exact .same hs (by obtain rfl := Option.some.inj hx; rfl) |> fun (h : ESnd rs _ σ (vact (.move x) ev σ) (ev x, _)) => by obtain rfl := Option.some.inj hx; exact h
  case makeFunc fn a b => obtain rfl := Option.some.inj hx; exact .same hs rfl
  case alloc t z => exact eact_sound (o := .alloc t z) hs hx
  case box t x => exact eact_sound (o := .box t x) hs hx
  case buildSlice a b c d => exact eact_sound (o := .buildSlice a b c d) hs hx
  case load a b c => exact eact_sound (o := .load a b c) hs hx
  case store size a v =>
    simp only [eactF] at hx
    simp only [vact]
    unfold eStore at hx
    generalize vcells (ev v) = q0 at hx ⊢
    generalize ev a = q1 at hx ⊢
    split at hx
    · rename_i i o vs
      split at hx
      · rename_i c e wr tight hg
        simp only [hs.cells hg]
        split at hx
        · rename_i hc
          simp only [if_pos hc]
          rw [stL_eq (by omega)] at hx
          obtain rfl := Option.some.inj hx; exact .upd hs hg rfl rfl
        · cases hx
      · cases hx
    · cases hx
  case slice a b c d e => exact eact_sound (o := .slice a b c d e) hs hx
  case makeSlice a b c d e => exact eact_sound (o := .makeSlice a b c d e) hs hx
  case append a b c d => exact eact_sound (o := .append a b c d) hs hx
  case ext o => exact exact_sound hs hx
  case callF => cases hx
  case callV => cases hx
  case bad => cases hx
  all_goals refine ppp_sound hs (fun v hv => ?_) hx
  case arith op x y =>
    simp only [vact]
    generalize ev x = a at hv ⊢
    generalize ev y = b at hv ⊢
    unfold pArith at hv
    split at hv
    · split at hv
      · rename_i hk
        simp only [if_pos hk]
        obtain rfl := Option.some.inj hv
        cases op <;> simp only [varith, wrapF_eq]
      · cases hv
    · cases hv
  case convI k x =>
    simp only [vact]
    generalize ev x = a at hv ⊢
    unfold pConvI at hv
    split at hv
    · obtain rfl := Option.some.inj hv; simp only [wrapF_eq]
    · cases hv
  case pick c a b =>
    simp only [vact]
    generalize ev c = q0 at hv ⊢
    generalize ev a = q1 at hv ⊢
    generalize ev b = q2 at hv ⊢
    unfold pPick at hv
    (repeat' split at hv) <;> first | (cases hv; done) | (obtain rfl := Option.some.inj hv; first | rfl | (simp_all; done) | (simp_all; intros; omega))
  case div op x y =>
    simp only [vact]
    generalize ev x = q0 at hv ⊢
    generalize ev y = q1 at hv ⊢
    unfold pDiv at hv
    (repeat' split at hv) <;> first | (cases hv; done) | (obtain rfl := Option.some.inj hv; first | rfl | (simp_all; done) | (simp_all; intros; omega))
  case bits op x y =>
    simp only [vact]
    generalize ev x = q0 at hv ⊢
    generalize ev y = q1 at hv ⊢
    unfold pBits at hv
    (repeat' split at hv) <;> first | (cases hv; done) | (obtain rfl := Option.some.inj hv; first | rfl | (simp_all; done) | (simp_all; intros; omega))
  case shift op x y =>
    simp only [vact]
    generalize ev x = q0 at hv ⊢
    generalize ev y = q1 at hv ⊢
    unfold pShift at hv
    (repeat' split at hv) <;> first | (cases hv; done) | (obtain rfl := Option.some.inj hv; first | rfl | (simp_all; done) | (simp_all; intros; omega))
  case cmp op x y =>
    simp only [vact]
    generalize ev x = q0 at hv ⊢
    generalize ev y = q1 at hv ⊢
    unfold pCmp at hv
    (repeat' split at hv) <;> first | (cases hv; done) | (obtain rfl := Option.some.inj hv; first | rfl | (simp_all; done) | (simp_all; intros; omega))
  case eqB n x y =>
    simp only [vact]
    generalize ev x = q0 at hv ⊢
    generalize ev y = q1 at hv ⊢
    unfold pEqB at hv
    (repeat' split at hv) <;> first | (cases hv; done) | (obtain rfl := Option.some.inj hv; first | rfl | (simp_all; done) | (simp_all; intros; omega))
  case un op x =>
    simp only [vact]
    generalize ev x = q0 at hv ⊢
    unfold pUn at hv
    (repeat' split at hv) <;> first | (cases hv; done) | (obtain rfl := Option.some.inj hv; first | rfl | (simp_all; done) | (simp_all; intros; omega))
  case convS x =>
    simp only [vact]
    generalize ev x = q0 at hv ⊢
    unfold pConvS at hv
    (repeat' split at hv) <;> first | (cases hv; done) | (obtain rfl := Option.some.inj hv; first | rfl | (simp_all; done) | (simp_all; intros; omega))
  case fieldAddr off a =>
    simp only [vact]
    generalize ev a = q0 at hv ⊢
    unfold pFieldAddr at hv
    (repeat' split at hv) <;> first | (cases hv; done) | (obtain rfl := Option.some.inj hv; first | rfl | (simp_all; done) | (simp_all; intros; omega))
  case indexAddr size x i =>
    simp only [vact]
    generalize ev x = q0 at hv ⊢
    generalize ev i = q1 at hv ⊢
    unfold pIndexAddr at hv
    (repeat' split at hv) <;> first | (cases hv; done) | (obtain rfl := Option.some.inj hv; first | rfl | (simp_all; done) | (simp_all; intros; omega))
  case indexAddrArr len size x i =>
    simp only [vact]
    generalize ev x = q0 at hv ⊢
    generalize ev i = q1 at hv ⊢
    unfold pIndexAddrArr at hv
    (repeat' split at hv) <;> first | (cases hv; done) | (obtain rfl := Option.some.inj hv; first | rfl | (simp_all; done) | (simp_all; intros; omega))
  case len x =>
    simp only [vact]
    generalize ev x = q0 at hv ⊢
    unfold pLen at hv
    (repeat' split at hv) <;> first | (cases hv; done) | (obtain rfl := Option.some.inj hv; first | rfl | (simp_all; done) | (simp_all; intros; omega))
  case lenStr x =>
    simp only [vact]
    generalize ev x = q0 at hv ⊢
    unfold pLenStr at hv
    (repeat' split at hv) <;> first | (cases hv; done) | (obtain rfl := Option.some.inj hv; first | rfl | (simp_all; done) | (simp_all; intros; omega))
  case max x y =>
    simp only [vact]
    generalize ev x = q0 at hv ⊢
    generalize ev y = q1 at hv ⊢
    unfold pMax at hv
    (repeat' split at hv) <;> first | (cases hv; done) | (obtain rfl := Option.some.inj hv; first | rfl | (simp_all; done) | (simp_all; intros; omega))
  case min x y =>
    simp only [vact]
    generalize ev x = q0 at hv ⊢
    generalize ev y = q1 at hv ⊢
    unfold pMin at hv
    (repeat' split at hv) <;> first | (cases hv; done) | (obtain rfl := Option.some.inj hv; first | rfl | (simp_all; done) | (simp_all; intros; omega))
  case nilCheck x =>
    simp only [vact]
    generalize ev x = q0 at hv ⊢
    unfold pNilCheck at hv
    (repeat' split at hv) <;> first | (cases hv; done) | (obtain rfl := Option.some.inj hv; first | rfl | (simp_all; done) | (simp_all; intros; omega))
  case str op x y =>
    simp only [vact]
    generalize ev x = q0 at hv ⊢
    generalize ev y = q1 at hv ⊢
    unfold pStr at hv
    (repeat' split at hv) <;> first | (cases hv; done) | (obtain rfl := Option.some.inj hv; first | rfl | (simp_all; done) | (simp_all; intros; omega))
  case build z parts =>
    simp only [vact]
    unfold pBuild at hv
    split at hv
    · rename_i cs hc
      rw [hc]; obtain rfl := Option.some.inj hv; rfl
    · cases hv
  case field agg off size x =>
    simp only [vact]
    generalize ev x = q0 at hv ⊢
    unfold pField at hv
    split at hv
    · dsimp only; rw [hv]
    · cases hv
  case indexStr x i =>
    simp only [vact]
    generalize ev x = q0 at hv ⊢
    generalize ev i = q1 at hv ⊢
    unfold pIndexStr at hv
    split at hv
    · split at hv
      · rename_i hc
        simp only [if_pos hc]
        split at hv
        · rename_i b hb; simp only [hb]; obtain rfl := Option.some.inj hv; rfl
        · cases hv
      · cases hv
    · cases hv
  case indexArr len agg size x i =>
    simp only [vact]
    generalize ev x = q0 at hv ⊢
    generalize ev i = q1 at hv ⊢
    unfold pIndexArr at hv
    split at hv
    · split at hv
      · rename_i hc; simp only [if_pos hc, hv]
      · cases hv
    · cases hv
  case sliceStr x lo hi =>
    simp only [vact]
    generalize ev x = q0 at hv ⊢
    unfold pSliceStr at hv
    split at hv
    · rename_i s
      split at hv
      · rename_i l h h1 h2
        split at hv
        · rename_i hc; simp only [h1, h2, if_pos hc]; obtain rfl := Option.some.inj hv; rfl
        · cases hv
      · cases hv
    · cases hv
  case iface t x =>
    simp only [vact]
    generalize ev x = q0 at hv ⊢
    unfold pIface at hv
    split at hv
    · cases hv
    · rename_i hne
      obtain rfl := Option.some.inj hv
      split
      · exact absurd rfl (hne _)
      · rfl
  case extract x i =>
    simp only [vact]
    generalize ev x = q0 at hv ⊢
    unfold pExtract at hv
    split at hv
    · dsimp only; rw [hv]
    · cases hv
end Go.V
namespace Go.V
open Go Go.ChangeShapes Go.WideShapes Go.RowKit Go.Deep Go.Joins
def Heap.RO (σ : Heap) : Prop := ∀ i b, σ.get i = some b → b.wr = false
structure View (w : World) (ρ : Plc) (σ : Heap) : Prop where
  rel : HRel ρ σ w
  ro : σ.RO
structure More (ρ : Plc) (σ : Heap) (ρ' : Plc) (σ' : Heap) : Prop where
  n : σ.n ≤ σ'.n
  pl : ∀ i, i < σ.n → ∀ p, ρ' i = some p → ρ i = some p
  ag : Agree σ σ'
theorem More.refl (ρ : Plc) (σ : Heap) : More ρ σ ρ σ := ⟨Nat.le_refl _, fun _ _ _ h => h, Agree.refl _⟩
theorem More.trans {ρ ρ' ρ'' : Plc} {σ σ' σ'' : Heap} (h : More ρ σ ρ' σ') (k : More ρ' σ' ρ'' σ'') : More ρ σ ρ'' σ'' :=
  ⟨Nat.le_trans h.n k.n, fun i hi p hp => h.pl i hi p (k.pl i (Nat.lt_of_lt_of_le hi h.n) p hp), h.ag.trans k.ag h.n⟩
theorem View.empty (w : World) : View w (fun _ => none) Heap.empty where
  rel := ⟨fun i b h => (by cases h), fun _ _ => rfl, fun i p h => (by cases h), fun i j p q b _ h => (by cases h)⟩
  ro := fun i b h => by cases h
theorem Agree.sl {σ σ' : Heap} (h : Agree σ σ') {esz : Nat} {v : Value} {cs : List Value} (hs : σ.sl esz v = some cs) : σ'.sl esz v = some cs := by
  unfold Heap.sl at hs ⊢
  split at hs
  · simp_all
  · rename_i i o n cap
    split at hs
    · rename_i c e wr t hb
      simp only [h i (σ.lt hb), hb]
      exact hs
    · cases hs
  · cases hs
theorem View.add {w : World} {ρ : Plc} {σ : Heap} (h : View w ρ σ) (p : Pl) (c : List Value) {C : Array Value} {e : TypeId} {f : Nat × Nat} (hb : w.heap[p.blk]? = some (.cells C e f)) (hs : p.shift + p.ext ≤ C.size) (hl : c.length ≤ p.ext) (ht : e = p.esz.ty)
    (hc : ∀ (k : Nat) (v : Value), c[k]? = some v → ∃ u, w.cell? ⟨p.blk, p.shift + k, none⟩ = some u ∧ VRel ρ σ.n v u) :
    View w (ρ.put σ.n (some p)) (σ.push (.cells c p.esz false p.tight)) ∧ More ρ σ (ρ.put σ.n (some p)) (σ.push (.cells c p.esz false p.tight)) := by
  have hpl : ∀ i, i < σ.n → ∀ q, (ρ.put σ.n (some p)) i = some q → ρ i = some q := fun i hi q hq => by
    unfold Plc.put at hq; rwa [if_neg (by omega)] at hq
  have hro : (σ.push (.cells c p.esz false p.tight)).RO := fun i b hi => by
    by_cases e : i = σ.n
    · subst e; rw [Heap.get_push_self] at hi; obtain rfl := Option.some.inj hi; rfl
    · rw [Heap.get_push_ne _ _ e] at hi; exact h.ro i b hi
  refine ⟨⟨⟨?_, ?_, ?_, ?_⟩, hro⟩, ⟨by simp, hpl, fun i hi => Heap.get_push_lt _ _ hi⟩⟩
  · intro i b hi
    by_cases hin : i = σ.n
    · subst hin
      rw [Heap.get_push_self] at hi
      obtain rfl := Option.some.inj hi
      refine ⟨p, by simp [Plc.put], rfl, rfl, hl, ⟨C, e, f, hb, hs, ht⟩, fun k v hk => ?_, fun h => by cases h⟩
      obtain ⟨u, hu, hv⟩ := hc k v hk
      exact ⟨u, hu, hv.mono (by simp) hpl⟩
    · rw [Heap.get_push_ne _ _ hin] at hi
      obtain ⟨q, hq, hB⟩ := h.rel.live i b hi
      exact ⟨q, by simp [Plc.put, hin, hq], hB.mono (by simp) hpl rfl⟩
  · intro i hi
    by_cases hin : i = σ.n
    · subst hin; rw [Heap.get_push_self] at hi; cases hi
    · rw [Heap.get_push_ne _ _ hin] at hi
      simp [Plc.put, hin, h.rel.dead i hi]
  · intro i q hq
    by_cases hin : i = σ.n
    · subst hin
      simp [Plc.put] at hq
      subst hq
      exact (Array.getElem?_eq_some_iff.1 hb).1
    · simp [Plc.put, hin] at hq
      exact h.rel.lt i q hq
  · intro i j q r b _ _ _ hb' hw _
    rw [hro i b hb'] at hw; cases hw
theorem rowAt_off {P : Program} {fits : TypeId → Bool} {d : Nat} {e : TypeId} {count off n : Nat} (h : rowAt P fits d e count off n = true) : off ≤ count * P.cellsOf e := by
  cases d with
  | zero => cases h
  | succ d =>
    unfold rowAt at h
    by_cases hs : P.cellsOf e = 0
    · simp [hs] at h
    · have hpos : 0 < P.cellsOf e := Nat.pos_of_ne_zero hs
      simp only [hs, if_false, Bool.or_eq_true, Bool.and_eq_true, beq_iff_eq, decide_eq_true_eq] at h
      have hd := Nat.div_add_mod off (P.cellsOf e)
      have hm := Nat.mod_lt off hpos
      rcases h with ⟨⟨h1, h2⟩, _⟩ | ⟨h1, _⟩
      · have : P.cellsOf e * (off / P.cellsOf e) ≤ P.cellsOf e * count := Nat.mul_le_mul_left _ (by omega)
        rw [Nat.mul_comm count]; omega
      · have : P.cellsOf e * (off / P.cellsOf e + 1) ≤ P.cellsOf e * count := Nat.mul_le_mul_left _ (by omega)
        rw [Nat.mul_add] at this
        rw [Nat.mul_comm count]; omega
theorem liesAt_off {P : Program} : ∀ {d : Nat} {e : TypeId} {count off : Nat} {u : TypeId} {n : Nat}, liesAt P d e count off u n = true → off ≤ count * P.cellsOf e
  | 0, _, _, _, _, _, h => by cases h
  | d + 1, e, count, off, u, n, h => by
    unfold liesAt at h
    rw [Bool.or_eq_true] at h
    rcases h with h | h
    · exact rowAt_off h
    · split at h
      · exact liesAt_off h
      · cases h
theorem has_block {P : Program} {w : World} {r : Reach} {base : Nat} {a : Addr} {e : TypeId} {n : Nat} (h : w.has P r base a e n) : ∃ C row f, w.heap[a.block]? = some (.cells C row f) ∧ a.off ≤ C.size ∧ a.spot = none := by
  obtain ⟨_, hs, row, cells, hsh, hl⟩ := h
  unfold World.shape? at hsh
  split at hsh
  · rename_i C e' f hb
    obtain ⟨rfl, rfl⟩ := (by simpa using hsh : e' = row ∧ C.size = cells)
    exact ⟨C, e', f, hb, Nat.le_trans (liesAt_off hl) (Nat.div_mul_le_self _ _), hs⟩
  · cases hsh
theorem okWide_slice {P : Program} {w : World} {r : Reach} {base : Nat} {t e : TypeId} {v : Value} (ht : P.underlying t = some (.slice e)) (h : Cell.okWide P w r base t v) :
    v = .slice none 0 0 ∨ ∃ a len cap, v = .slice (some a) len cap ∧ w.has P r base a e cap := by
  unfold Cell.okWide at h
  rw [ht] at h
  have h' : Cell.ok P w r base t v := by
    split at h <;> first | exact h | simp_all
  unfold Cell.ok at h'
  rw [ht] at h'
  split at h' <;> first | exact .inl rfl | (cases h'; done) | skip
  all_goals first | (rename_i h1 h2; simp_all; done) | skip
  all_goals first | (simp_all; exact ⟨_, _, _, ⟨rfl, rfl, rfl⟩, h'.2.2⟩) | (simp_all)
theorem int_wf {k : IntKind} {x : Int} (h : (Lit.int k x).wf = true) : k.min ≤ x ∧ x ≤ k.max := by
  simpa [Lit.wf] using h
theorem View.calls {P : Program} {f : FuncId} {w : World} {ρ : Plc} {σ : Heap} (h : View w ρ σ) {args : List Value} {cargs : Array Value} (hl : LRel ρ σ.n args cargs.toList) (hc : VCallsTo P f args σ fun v _ => v = .bool true) :
    Calls P f cargs w fun e w' => e = .returned (.bool true) ∧ Below w.heap.size w w' := by
  refine (hc ρ w cargs h.rel hl).mono fun e w' ⟨c, he, v, ρ', σ', hv, hr, _, hx⟩ => ?_
  subst hv
  have : c = .bool true := by cases hr; rfl
  subst this
  exact ⟨he, hx.os, hx.tape, hx.output, hx.size, fun B hB => hx.keep B hB fun ⟨i, p, b, _, hi, hw, _⟩ => by rw [h.ro i b hi] at hw; cases hw⟩
theorem trodAll_stays {H : Type} {enc : TypeId × Value → H} {P : Program} (hl : laidOutB P = true) {W W' : World} {sp : Nat → Bool} (hb : Below W.heap.size W W') :
    ∀ {ts : List TypeId} {vs : List Value} {ds : List (DataW H)} {ps : List MemPlace}, (∀ t ∈ ts, P.readableRec t = true ∧ t < P.types.size) → DataW.TrodAll enc P W 0 (fun _ => true) true ts vs ds ps → (∀ p ∈ ps, p.block < W.heap.size) → (∀ p ∈ ps, sp p.block = true) →
      DataW.TrodAll enc P W' 0 sp true ts vs ds ps
  | [], vs, ds, ps, _, h, _, _ => by
    obtain ⟨rfl, rfl, rfl⟩ := trodAll_nil h
    rfl
  | t :: ts, vs, ds, ps, ht, h, hlt, hs => by
    obtain ⟨v, vs', d, ds', p, q, rfl, rfl, rfl, h1, h2⟩ := trodAll_cons h
    obtain ⟨r1, r2⟩ := ht t (by simp)
    exact ⟨p, q, WideElems.Trod_stays hl r1 r2 h1 (fun x hx => hb.same (hlt x (by simp [hx]))) (fun x hx => hs x (by simp [hx])),
      trodAll_stays hl hb (fun t ht' => ht t (by simp [ht'])) h2 (fun x hx => hlt x (by simp [hx])) (fun x hx => hs x (by simp [hx])), rfl⟩
theorem post_true {H : Type} {enc : TypeId × Value → H} {P : Program} {f : Func} {s : ChangeSpec} {apart fresh handsOn again : Bool} {W W' : World} {args : Array Value} {ds gs : List (DataW H)} {before : List MemPlace} {tb : TypeId}
    (hl : laidOutB P = true) (hp : f.params.toList.all (fun t => P.readableRec t && decide (t < P.types.size)) = true) (hvars : s.vars = []) (hr : f.resultTypes = #[tb]) (hb1 : P.underlying tb = some .bool) (hs : s.fn H ds = { results := [.lit (.bool true)], args := ds })
    (hW : DataW.Whole enc P f.params.toList s.vars apart W args.toList ds gs before) (hb : Below W.heap.size W W') : s.post enc P f apart fresh handsOn again W args (.bool true) W' := by
  have hlt : ∀ p ∈ before, p.block < W.heap.size := fun p hp => hW.lt p hp
  have hW0 := hW
  obtain ⟨p, q, hA, hV, rfl, hz, hn⟩ := hW
  rw [hvars] at hV
  obtain ⟨rfl, rfl⟩ := trodVars_none hV
  have hp' : ∀ t ∈ f.params.toList, P.readableRec t = true ∧ t < P.types.size := fun t ht => by
    have := List.all_eq_true.1 hp t ht
    simpa using this
  have hsg : s.fn H (ds ++ []) = { results := [.lit (.bool true)], args := ds } := by rw [List.append_nil]; exact hs
  have hres : ∀ (b : Nat) (sp : Nat → Bool) (hd : Bool), DataW.TrodAll enc P W' b sp hd f.resultTypes.toList ((Value.bool true).resultList f.resultTypes.size) (s.fn H (ds ++ [])).results [] := fun b sp hd => by
    rw [hsg, hr]
    exact trodAll_mk1 (shut_bool hb1 _)
  have hargs : ∀ sp : Nat → Bool, (∀ x ∈ p ++ [], sp x.block = true) → DataW.TrodAll enc P W' 0 sp true f.params.toList args.toList (s.fn H (ds ++ [])).args p := fun sp hsp => by
    rw [hsg]
    exact trodAll_stays hl hb hp' hA (fun x hx => hlt x (by simp [hx])) (fun x hx => hsp x (by simp [hx]))
  have hvs : ∀ sp : Nat → Bool, DataW.TrodVars enc P W' sp s.vars (s.fn H (ds ++ [])).vars [] := fun sp => by
    rw [hsg, hvars]; rfl
  have hold : ∀ x ∈ p ++ [], (fun b => decide (b < W.heap.size)) x.block = true := fun x hx => by simpa using hlt x hx
  refine ⟨ds, [], p ++ [], [], p, [], hW0, hres _ _ _, hargs _ hold, hvs _, World.keptBut_mono (fun x hx => ⟨hx, ?_⟩) (hb.frame (· ∈ p ++ [])), fun _ => ?_⟩
  · exact .inr (by simpa using hx)
  · refine ⟨ok_one hr rfl (okWide_bool_mk hb1 _), _, _, ([] ++ p) ++ [], ⟨[] ++ p, [], trodAll_append (hargs _ (fun _ _ => rfl)) (hres _ _ _), hvs _, rfl, ?_, ?_⟩, ?_⟩
    · intro b off hx
      have hin : MemPlace.cell b off ∈ p ++ [] := by simpa using hx
      rw [hb.frozen (hlt _ hin)]
      exact hz b off hin
    · intro ha
      simpa using hn ha
    · intro x hx _
      simpa using hx
end Go.V
namespace Go.V
open Go Go.ChangeShapes Go.WideShapes Go.RowKit Go.Deep Go.Joins
def KFs (T : Kind → TypeId → Bool) (sz : TypeId → Nat) : Kind → List (TypeId × Nat) → Nat → Bool
  | _, [], _ => false
  | k, [p], off => p.2 == off && (sz p.1 == k.size && T k p.1)
  | .pair a b, p :: q :: r, off => p.2 == off && (sz p.1 == a.size && (T a p.1 && KFs T sz b (q :: r) (off + a.size)))
  | _, _ :: _ :: _, _ => false
def KTy (P : Program) : Nat → Kind → TypeId → Bool
  | 0, _, _ => false
  | n + 1, k, t => match P.underlying t with
    | some (.struct fs) => P.cellsOf t == k.size && KFs (KTy P n) P.cellsOf k (fs.toList.map fun f => (f.type, f.offset)) 0
    | some (.array m e) => P.cellsOf t == k.size && KFs (KTy P n) P.cellsOf k ((List.range m).map fun i => (e, i * P.cellsOf e)) 0
    | some (.int ik) => (match k with | .i k' => decide (k' = ik) | _ => false)
    | some .bool => (match k with | .bo => true | _ => false)
    | some .string => (match k with | .st => true | _ => false)
    | some (.slice e) => (match k with | .list k' => P.cellsOf e == k'.size && (k'.flat && KTy P n k' e) | _ => false)
    | _ => false
def KWf : (k : Kind) → k.T → Prop
  | .i ik, x => InK ik x
  | .bo, _ => True
  | .st, s => s.length ≤ maxLen
  | .list k, l => l.length ≤ maxLen ∧ ∀ x ∈ l, KWf k x
  | .pair a b, x => KWf a x.1 ∧ KWf b x.2
theorem More.le {ρ ρ' : Plc} {σ σ' : Heap} (h : More ρ σ ρ' σ') : σ.Le σ' := ⟨h.n, fun i b hb => by rw [h.ag i (σ.lt hb)]; exact hb⟩
def ArgIs (w : World) (ρ : Plc) (σ : Heap) (k : Kind) (cs : List Value) : Prop :=
  ∃ ρ' σ' vs x, View w ρ' σ' ∧ More ρ σ ρ' σ' ∧ LRel ρ' σ'.n vs cs ∧ KC σ' k x vs ∧ KWf k x
theorem ArgIs.pair {w : World} {ρ : Plc} {σ : Heap} {a b : Kind} {cs ds : List Value} (h1 : ArgIs w ρ σ a cs) (h2 : ∀ ρ σ, View w ρ σ → ArgIs w ρ σ b ds) : ArgIs w ρ σ (.pair a b) (cs ++ ds) := by
  obtain ⟨ρ1, σ1, vs1, x1, k1, k2, k3, k4, k5⟩ := h1
  obtain ⟨ρ2, σ2, vs2, x2, m1, m2, m3, m4, m5⟩ := h2 ρ1 σ1 k1
  exact ⟨ρ2, σ2, vs1 ++ vs2, (x1, x2), m1, k2.trans m2, (k3.mono m2.n m2.pl).append m3, ⟨vs1, vs2, rfl, k4.mono m2.le, m4⟩, k5, m5⟩
section
variable {H : Type} {enc : TypeId × Value → H} {P : Program} {w : World} {r : Reach} {base : Nat}
def okc (P : Program) (w : World) (r : Reach) (base : Nat) (ts : List TypeId) (cs : List Value) : Prop := ∀ (i : Nat) v u, cs[i]? = some v → ts[i]? = some u → Cell.okWide P w r base u v
theorem KFs_len {T : Kind → TypeId → Bool} {sz : TypeId → Nat} {g : TypeId → Option (List TypeId)} (hT : ∀ k t ts, T k t = true → g t = some ts → ts.length = k.size) :
    ∀ {k : Kind} {L : List (TypeId × Nat)} {off : Nat} {tss : List (List TypeId)}, KFs T sz k L off = true → L.mapM (fun p => g p.1) = some tss → tss.flatten.length = k.size
  | k, [], _, _, h, _ => by simp [KFs] at h
  | k, [p], off, tss, h, hm => by
    simp only [KFs, Bool.and_eq_true] at h
    cases hg : g p.1 with
    | none => simp [hg] at hm
    | some ts =>
      simp [hg] at hm
      subst hm
      simpa using hT _ _ _ h.2.2 hg
  | .pair a b, p :: q :: r, off, tss, h, hm => by
    simp only [KFs, Bool.and_eq_true] at h
    rw [List.mapM_cons] at hm
    cases hg : g p.1 with
    | none => simp [hg] at hm
    | some ts =>
      cases hr : (q :: r).mapM (fun p => g p.1) with
      | none => simp [hg, hr] at hm
      | some tr =>
        simp [hg, hr] at hm
        subst hm
        have := KFs_len hT h.2.2.2 hr
        simp only [List.flatten_cons, List.length_append, this, hT _ _ _ h.2.2.1 hg, Kind.size]
  | .i _, _ :: _ :: _, _, _, h, _ | .bo, _ :: _ :: _, _, _, h, _ | .st, _ :: _ :: _, _, _, h, _ | .list _, _ :: _ :: _, _, _, h, _ => by cases h
theorem mapM_map {α β γ : Type} {f : α → β} {g : β → Option γ} : ∀ (l : List α), (l.map f).mapM g = l.mapM (fun x => g (f x))
  | [] => rfl
  | a :: l => by simp only [List.map_cons, List.mapM_cons, mapM_map l]
theorem mapM_const {β : Type} {x : β} {f : Nat → Option β} (h : ∀ i, f i = some x) : ∀ l : List Nat, l.mapM f = some (List.replicate l.length x)
  | [] => rfl
  | a :: l => by simp [List.mapM_cons, h, mapM_const h l, List.replicate_succ]
theorem KTy_len : ∀ {n : Nat} {k : Kind} {t : TypeId} {d : Nat} {ts : List TypeId}, KTy P n k t = true → P.cellTypes d t = some ts → ts.length = k.size
  | 0, _, _, _, _, h, _ => by cases h
  | _ + 1, _, _, 0, _, _, h => by cases h
  | n + 1, k, t, d + 1, ts, h, ht => by
    have ih : ∀ k t ts, KTy P n k t = true → P.cellTypes d t = some ts → ts.length = k.size := fun k t ts h1 h2 => KTy_len h1 h2
    unfold Program.cellTypes at ht
    unfold KTy at h
    cases hu : P.underlying t with
    | none => rw [hu] at h; cases h
    | some u =>
      rw [hu] at h ht
      cases u <;> first | (cases h; done) | skip
      all_goals simp only at h ht
      · split at h <;> first | (cases h; done) | (obtain rfl := Option.some.inj ht; rfl)
      · split at h <;> first | (cases h; done) | (obtain rfl := Option.some.inj ht; rfl)
      · split at h <;> first | (cases h; done) | (obtain rfl := Option.some.inj ht; rfl)
      · split at h <;> first | (cases h; done) | (obtain rfl := Option.some.inj ht; rfl)
      · rename_i m e
        rw [Bool.and_eq_true] at h
        cases hc : P.cellTypes d e with
        | none => rw [hc] at ht; cases ht
        | some te =>
          rw [hc] at ht
          obtain rfl := Option.some.inj ht
          refine KFs_len (g := fun t => P.cellTypes d t) ih h.2 ?_
          rw [mapM_map, mapM_const (x := te) (fun _ => hc)]
          simp
      · rename_i fs
        rw [Bool.and_eq_true] at h
        cases hc : fs.toList.mapM fun f => P.cellTypes d f.type with
        | none => rw [hc] at ht; cases ht
        | some tss =>
          rw [hc] at ht
          obtain rfl := Option.some.inj ht
          refine KFs_len (g := fun t => P.cellTypes d t) ih h.2 ?_
          rw [mapM_map]; exact hc
theorem KFs_read {T : Kind → TypeId → Bool} {sz : TypeId → Nat} {Q : TypeId → List Value → Prop} {R : Kind → List Value → Prop} (hT : ∀ k t cs, T k t = true → Q t cs → R k cs) (hR : ∀ a b cs ds, R a cs → R b ds → R (.pair a b) (cs ++ ds)) (cs : List Value) :
    ∀ {k : Kind} {L : List (TypeId × Nat)} {off : Nat}, KFs T sz k L off = true → (∀ p ∈ L, Q p.1 ((cs.drop p.2).take (sz p.1))) → R k ((cs.drop off).take k.size)
  | k, [], _, h, _ => by simp [KFs] at h
  | k, [p], off, h, hq => by
    simp only [KFs, Bool.and_eq_true, beq_iff_eq] at h
    have := hq p (by simp)
    rw [h.1, h.2.1] at this
    exact hT _ _ _ h.2.2 this
  | .pair a b, p :: q :: r, off, h, hq => by
    simp only [KFs, Bool.and_eq_true, beq_iff_eq] at h
    have h1 := hq p (by simp)
    rw [h.1, h.2.1] at h1
    have h2 := KFs_read hT hR cs h.2.2.2 fun x hx => hq x (List.mem_cons_of_mem _ hx)
    have e : (cs.drop off).take (Kind.pair a b).size = (cs.drop off).take a.size ++ (cs.drop (off + a.size)).take b.size := by
      rw [Kind.size, List.take_add, List.drop_drop]
    rw [e]
    exact hR _ _ _ _ (hT _ _ _ h.2.2.1 h1) h2
  | .i _, _ :: _ :: _, _, h, _ | .bo, _ :: _ :: _, _, h, _ | .st, _ :: _ :: _, _, h, _ | .list _, _ :: _ :: _, _, h, _ => by cases h
def FlatIs (k : Kind) (cs : List Value) : Prop := ∃ y : k.T, (∀ h, KC h k y cs) ∧ KWf k y ∧ ∀ ρ m, LRel ρ m cs cs
theorem FlatIs.pair {a b : Kind} {cs ds : List Value} (h1 : FlatIs a cs) (h2 : FlatIs b ds) : FlatIs (.pair a b) (cs ++ ds) := by
  obtain ⟨x, k1, k2, k3⟩ := h1
  obtain ⟨y, m1, m2, m3⟩ := h2
  exact ⟨(x, y), fun h => ⟨cs, ds, rfl, k1 h, m1 h⟩, ⟨k2, m2⟩, fun ρ m => (k3 ρ m).append (m3 ρ m)⟩
theorem LRel.one {ρ : Plc} {n : Nat} {v c : Value} (h : VRel ρ n v c) : LRel ρ n [v] [c] := .cons h (.nil _ _)
theorem range_mem_get {fs : Array Field} {f : Field} (h : f ∈ fs.toList) : ∃ i : Nat, fs[i]? = some f := by
  obtain ⟨i, hi, rfl⟩ := List.mem_iff_getElem.1 h
  exact ⟨i, by simp at hi; simp [hi]⟩
theorem KTy_flat {sp : Nat → Bool} {held : Bool} : ∀ {n : Nat} {k : Kind} {t : TypeId} {fuel : Nat} {cs : List Value} {x : DataW H × List MemPlace}, KTy P n k t = true → k.flat = true → DataW.trod enc P w base sp held fuel t cs = some x → FlatIs k cs
  | 0, _, _, _, _, _, h, _, _ => by cases h
  | n + 1, k, t, fuel, cs, x, h, hf, hx => by
    unfold KTy at h
    cases hu : P.underlying t with
    | none => rw [hu] at h; cases h
    | some u =>
      rw [hu] at h
      have hR : ∀ a b cs ds, ((a.flat = true → FlatIs a cs) ∧ True) → ((b.flat = true → FlatIs b ds) ∧ True) → (((Kind.pair a b).flat = true → FlatIs (.pair a b) (cs ++ ds)) ∧ True) := fun a b cs ds h1 h2 => ⟨fun hf => by
        simp only [Kind.flat, Bool.and_eq_true] at hf
        exact (h1.1 hf.1).pair (h2.1 hf.2), trivial⟩
      have hT : ∀ k t cs, KTy P n k t = true → (∃ fuel x, DataW.trod enc P w base sp held fuel t cs = some x) → ((k.flat = true → FlatIs k cs) ∧ True) := fun k t cs h1 ⟨fuel, x, h2⟩ => ⟨fun hf => KTy_flat h1 hf h2, trivial⟩
      cases u <;> first | (cases h; done) | skip
      all_goals simp only at h
      · split at h <;> first | (cases h; done) | skip
        obtain ⟨b, rfl, _⟩ := DataW.trod_bool hu hx
        exact ⟨b, fun _ => rfl, trivial, fun _ _ => .one (.bool _)⟩
      · split at h <;> first | (cases h; done) | skip
        obtain rfl := of_decide_eq_true h
        obtain ⟨z, rfl, _, hw⟩ := DataW.trod_int hu hx
        exact ⟨z, fun _ => rfl, int_wf hw, fun _ _ => .one (.int _ _)⟩
      · split at h <;> first | (cases h; done) | skip
        obtain ⟨s, rfl, _, hs⟩ := DataW.trod_string hu hx
        exact ⟨s.data.toList, fun _ => rfl, hs, fun _ _ => .one (.string _)⟩
      · split at h <;> first | (cases h; done) | (cases hf; done)
      · rename_i m e
        simp only [Bool.and_eq_true, beq_iff_eq] at h
        obtain ⟨xs, m', _, _, hl, hxl, hx⟩ := DataW.trod_array hu hx
        have := (KFs_read (R := fun k cs => (k.flat = true → FlatIs k cs) ∧ True) hT hR cs h.2 fun p hp => by
          simp only [List.mem_map, List.mem_range] at hp
          obtain ⟨i, hi, rfl⟩ := hp
          have := hx i hi
          rw [List.getElem?_eq_getElem (by omega)] at this
          exact ⟨_, _, this⟩).1 hf
        rwa [List.drop_zero, List.take_of_length_le (by omega)] at this
      · rename_i fs
        simp only [Bool.and_eq_true, beq_iff_eq] at h
        obtain ⟨xs, m', _, _, hl, hxl, hx⟩ := DataW.trod_struct hu hx
        have := (KFs_read (R := fun k cs => (k.flat = true → FlatIs k cs) ∧ True) hT hR cs h.2 fun p hp => by
          simp only [List.mem_map] at hp
          obtain ⟨f, hf', rfl⟩ := hp
          obtain ⟨i, hi⟩ := range_mem_get hf'
          have := hx i f hi
          have hil : i < fs.size := (Array.getElem?_eq_some_iff.1 hi).1
          rw [List.getElem?_eq_getElem (by omega)] at this
          exact ⟨_, _, this⟩).1 hf
        rwa [List.drop_zero, List.take_of_length_le (by omega)] at this
theorem Rows.range {α : Type} {R : α → List Value → Prop} {n : Nat} {c : List Value} {x : Nat → α} : ∀ (m : Nat), (∀ i, i < m → R (x i) ((c.drop (i * n)).take n)) → Rows R ((List.range m).map x) (c.take (m * n))
  | 0, _ => by simp; exact .nil
  | m + 1, h => by
    have e : c.take ((m + 1) * n) = c.take (m * n) ++ (c.drop (m * n)).take n := by rw [Nat.add_mul, Nat.one_mul, List.take_add]
    rw [List.range_succ, List.map_append, e]
    exact (Rows.range m fun i hi => h i (by omega)).append (by simpa using Rows.cons (h m (by omega)) .nil)
theorem choose_below {α : Type} [Inhabited α] {m : Nat} {p : Nat → α → Prop} (h : ∀ i, i < m → ∃ x, p i x) : ∃ f : Nat → α, ∀ i, i < m → p i (f i) :=
  ⟨fun i => if hi : i < m then (h i hi).choose else default, fun i hi => by simp only [hi, dif_pos]; exact (h i hi).choose_spec⟩
instance KInh (k : Kind) : Inhabited k.T := ⟨k.dflt⟩
theorem View.list {ρ : Plc} {σ : Heap} (h : View w ρ σ) {n : Nat} {k : Kind} {t e : TypeId} {fuel : Nat} {cs : List Value} {x : DataW H × List MemPlace} (hu : P.underlying t = some (.slice e)) (hs : P.cellsOf e = k.size) (hf : k.flat = true) (hk : KTy P n k e = true)
    (hx : DataW.trod enc P w 0 (fun _ => true) true fuel t cs = some x) (hok : okc P w r base [t] cs) : ArgIs w ρ σ (.list k) cs := by
  rcases open_slice hu hx with ⟨rfl, _⟩ | ⟨a, len, cap, m, fu, D, Pl, rfl, hb, hl, hm, hmm, _, hel⟩
  · exact ⟨ρ, σ, [.slice none 0 0], [], h, More.refl _ _, .one .nilSl, ⟨_, rfl, .inl ⟨rfl, rfl⟩⟩, by simp [maxLen], fun _ hx => by cases hx⟩
  simp only [if_true] at hmm
  subst hmm
  rw [hs] at hel
  have hhas : w.has P r base a e m := by
    rcases okWide_slice hu (hok 0 _ t rfl rfl) with hh | ⟨a', len', cap', hh, h2⟩
    · cases hh
    · cases hh; exact h2
  obtain ⟨C, row, f, hblk, hoff, hsp⟩ := has_block hhas
  obtain ⟨blk, off, spot⟩ := a
  simp only at hblk hoff hsp
  subst hsp
  have hadd : ∀ i, (⟨blk, off, none⟩ : Addr).add i = ⟨blk, off + i, none⟩ := fun i => by unfold Addr.add; split <;> simp_all
  obtain ⟨X, hX⟩ := choose_below (α := k.T × List Value) (m := m) (p := fun i p => p.2.length = k.size ∧ (∀ j, j < k.size → w.cell? ⟨blk, off + i * k.size + j, none⟩ = p.2[j]?) ∧ (∀ h, KC h k p.1 p.2) ∧ KWf k p.1 ∧ ∀ ρ m, LRel ρ m p.2 p.2) fun i hi => by
    obtain ⟨cs', h1, h2⟩ := hel i hi
    obtain ⟨_, k1, k2⟩ := World.cells?_some h1
    obtain ⟨y, m1, m2, m3⟩ := KTy_flat hk hf h2
    refine ⟨(y, cs'), k1, fun j hj => ?_, m1, m2, m3⟩
    have := k2 j hj
    rw [hadd] at this
    have e2 : (⟨blk, off + i * k.size, none⟩ : Addr).add j = ⟨blk, off + i * k.size + j, none⟩ := by unfold Addr.add; split <;> simp_all
    rw [e2] at this
    exact this
  have hpos := k.size_pos
  let c : List Value := (List.range (m * k.size)).map fun j => ((X (j / k.size)).2[j % k.size]?).getD undef
  have hcl : c.length = m * k.size := by simp [c]
  have hdiv : ∀ j, j < m * k.size → j / k.size < m := fun j hj => Nat.div_lt_of_lt_mul (by rw [Nat.mul_comm]; exact hj)
  have hcell : ∀ j, j < m * k.size → ∃ v, c[j]? = some v ∧ w.cell? ⟨blk, off + j, none⟩ = some v ∧ ∀ ρ m, VRel ρ m v v := fun j hj => by
    have h1 := hX (j / k.size) (hdiv j hj)
    have hjm : j % k.size < k.size := Nat.mod_lt _ hpos
    have h2 := h1.2.1 _ hjm
    have e : off + j / k.size * k.size + j % k.size = off + j := by rw [Nat.add_assoc, Nat.div_add_mod']
    rw [e] at h2
    have h3 : j % k.size < (X (j / k.size)).2.length := by rw [h1.1]; exact hjm
    refine ⟨(X (j / k.size)).2[j % k.size], ?_, ?_, fun ρ m => (h1.2.2.2.2 ρ m).2 _ _ _ (List.getElem?_eq_getElem h3) (List.getElem?_eq_getElem h3)⟩
    · simp only [c, List.getElem?_map, List.getElem?_range hj, Option.map_some, List.getElem?_eq_getElem h3, Option.getD_some]
    · rw [h2, List.getElem?_eq_getElem h3]
  have helt : ∀ i, i < m → (c.drop (i * k.size)).take k.size = (X i).2 := fun i hi => by
    have h1 := hX i hi
    have hle : i * k.size + k.size ≤ m * k.size := by
      have : (i + 1) * k.size ≤ m * k.size := Nat.mul_le_mul_right _ hi
      rw [Nat.add_mul] at this; omega
    apply List.ext_getElem?
    intro j
    by_cases hj : j < k.size
    · rw [List.getElem?_take_of_lt hj, List.getElem?_drop]
      have hj2 : i * k.size + j < m * k.size := by omega
      have e1 : (i * k.size + j) / k.size = i := by rw [Nat.mul_comm, Nat.mul_add_div hpos, Nat.div_eq_of_lt hj, Nat.add_zero]
      have e2 : (i * k.size + j) % k.size = j := by rw [Nat.mul_comm, Nat.mul_add_mod, Nat.mod_eq_of_lt hj]
      have h3 : j < (X i).2.length := by rw [h1.1]; exact hj
      simp only [c, List.getElem?_map, List.getElem?_range hj2, Option.map_some, e1, e2, List.getElem?_eq_getElem h3, Option.getD_some]
    · rw [List.getElem?_eq_none (by simp; omega), List.getElem?_eq_none (by omega)]
  have hsz : off + m * k.size ≤ C.size := by
    rcases Nat.eq_zero_or_pos (m * k.size) with h0 | h0
    · omega
    · obtain ⟨v, _, h2, _⟩ := hcell (m * k.size - 1) (by omega)
      unfold World.cell? at h2
      simp only [hblk] at h2
      have := (Array.getElem?_eq_some_iff.1 (by simpa using h2)).1
      omega
  obtain ⟨hv, hmo⟩ := h.add ⟨blk, off, m * k.size, ⟨k.size, row⟩, false⟩ c hblk hsz (by simp [hcl]) rfl (fun j v hj => by
    have hjl : j < m * k.size := by rw [← hcl]; exact (List.getElem?_eq_some_iff.1 hj).1
    obtain ⟨v', h1, h2, h3⟩ := hcell j hjl
    obtain rfl := Option.some.inj (hj.symm.trans h1)
    exact ⟨v, h2, h3 _ _⟩)
  have hlen : ((List.range len).map fun i => (X i).1).length = len := by simp
  refine ⟨_, _, [.slice (some ⟨σ.n, 0, none⟩) len m], (List.range len).map fun i => (X i).1, hv, hmo, .one ?_, ⟨_, rfl, .inr ⟨σ.n, 0, m, c, ⟨k.size, row⟩, false, false, by rw [hlen], by rw [hlen]; exact hl, Heap.get_push_self _ _, rfl, ?_, ?_⟩⟩, ?_, fun y hy => ?_⟩
  · refine .sl _ _ _ _ _ _ (by simp) fun p hp => ?_
    simp [Plc.put] at hp
    subst hp
    exact ⟨Nat.le_refl _, (fun h => by cases h), 0, by simp, by simp, .inl rfl⟩
  · rw [hlen, hcl, Nat.zero_add]; exact Nat.mul_le_mul_right _ hl
  · rw [hlen, List.drop_zero]
    refine Rows.range len fun i hi => ?_
    rw [helt i (by omega)]
    exact (hX i (by omega)).2.2.1 _
  · rw [hlen]; exact Nat.le_trans hl hm
  · obtain ⟨i, hi, rfl⟩ := List.mem_map.1 hy
    exact (hX i (by have := List.mem_range.1 hi; omega)).2.2.2.1
def Kind.lev1 : Kind → Bool
  | .list k => k.flat
  | .pair a b => a.lev1 && b.lev1
  | _ => true
theorem okc_part {ts : List TypeId} {cs : List Value} (h : okc P w r base ts cs) (o n : Nat) : okc P w r base ((ts.drop o).take n) ((cs.drop o).take n) := fun i v u h1 h2 => by
  have hi : i < n := by
    have := (List.getElem?_eq_some_iff.1 h1).1
    rw [List.length_take] at this; omega
  rw [List.getElem?_take_of_lt hi, List.getElem?_drop] at h1 h2
  exact h _ v u h1 h2
theorem KFs_types {T : Kind → TypeId → Bool} {sz : TypeId → Nat} {g : TypeId → Option (List TypeId)} (hT : ∀ k t ts, T k t = true → g t = some ts → ts.length = k.size) :
    ∀ {k : Kind} {L : List (TypeId × Nat)} {off : Nat} {tss : List (List TypeId)}, KFs T sz k L off = true → L.mapM (fun p => g p.1) = some tss → ∀ p ∈ L, off ≤ p.2 ∧ g p.1 = some ((tss.flatten.drop (p.2 - off)).take (sz p.1))
  | k, [], _, _, h, _ => by simp [KFs] at h
  | k, [p], off, tss, h, hm => by
    simp only [KFs, Bool.and_eq_true, beq_iff_eq] at h
    intro p' hp
    obtain rfl := List.mem_singleton.1 hp
    cases hg : g p'.1 with
    | none => simp [hg] at hm
    | some ts =>
      simp [hg] at hm
      subst hm
      refine ⟨by omega, ?_⟩
      rw [h.1, Nat.sub_self, List.drop_zero, h.2.1, List.take_of_length_le]
      · simp
      · simp [hT _ _ _ h.2.2 hg]
  | .pair a b, p :: q :: r, off, tss, h, hm => by
    simp only [KFs, Bool.and_eq_true, beq_iff_eq] at h
    rw [List.mapM_cons] at hm
    intro p' hp
    cases hg : g p.1 with
    | none => simp [hg] at hm
    | some ts =>
      cases hr : (q :: r).mapM (fun p => g p.1) with
      | none => simp [hg, hr] at hm
      | some tr =>
        simp [hg, hr] at hm
        subst hm
        have hlen := hT _ _ _ h.2.2.1 hg
        rcases List.mem_cons.1 hp with rfl | hp
        · refine ⟨by omega, ?_⟩
          rw [hg, h.1, Nat.sub_self, List.drop_zero, h.2.1, List.flatten_cons, List.take_append, ← hlen, Nat.sub_self, List.take_zero, List.append_nil, List.take_length]
        · obtain ⟨h1, h2⟩ := KFs_types hT h.2.2.2 hr p' hp
          refine ⟨by omega, ?_⟩
          have e1 : ts.drop (p'.2 - off) = [] := List.drop_eq_nil_of_le (by omega)
          have e2 : p'.2 - off - a.size = p'.2 - (off + a.size) := by omega
          rw [h2, List.flatten_cons, List.drop_append, hlen, e1, e2, List.nil_append]
  | .i _, _ :: _ :: _, _, _, h, _ | .bo, _ :: _ :: _, _, _, h, _ | .st, _ :: _ :: _, _, _, h, _ | .list _, _ :: _ :: _, _, _, h, _ => by cases h
theorem KTy_read : ∀ {n : Nat} {k : Kind} {t : TypeId} {d : Nat} {ts : List TypeId} {fuel : Nat} {cs : List Value} {x : DataW H × List MemPlace}, KTy P n k t = true → k.lev1 = true → P.cellTypes d t = some ts → okc P w r base ts cs → DataW.trod enc P w 0 (fun _ => true) true fuel t cs = some x → ∀ ρ σ, View w ρ σ → ArgIs w ρ σ k cs
  | 0, _, _, _, _, _, _, _, h, _, _, _, _ => by cases h
  | _ + 1, _, _, 0, _, _, _, _, _, _, h, _, _ => by cases h
  | n + 1, k, t, d + 1, ts, fuel, cs, x, h, hf, hts, hok, hx => by
    intro ρ σ hv
    by_cases hflat : k.flat = true
    · obtain ⟨y, h1, h2, h3⟩ := KTy_flat h hflat hx
      exact ⟨ρ, σ, cs, y, hv, More.refl _ _, h3 _ _, h1 _, h2⟩
    unfold KTy at h
    cases hu : P.underlying t with
    | none => rw [hu] at h; cases h
    | some u =>
      rw [hu] at h
      let Q : TypeId → List Value → Prop := fun t cs => (∃ fuel x, DataW.trod enc P w 0 (fun _ => true) true fuel t cs = some x) ∧ ∃ ts, P.cellTypes d t = some ts ∧ okc P w r base ts cs
      let R : Kind → List Value → Prop := fun k cs => k.lev1 = true → ∀ ρ σ, View w ρ σ → ArgIs w ρ σ k cs
      have hR : ∀ a b cs ds, R a cs → R b ds → R (.pair a b) (cs ++ ds) := fun a b cs ds h1 h2 hl ρ σ hv => by
        simp only [Kind.lev1, Bool.and_eq_true] at hl
        exact (h1 hl.1 ρ σ hv).pair fun ρ σ hv => h2 hl.2 ρ σ hv
      have hT : ∀ k t cs, KTy P n k t = true → Q t cs → R k cs := fun k t cs h1 ⟨⟨fuel, x, h2⟩, ts, h3, h4⟩ hl => KTy_read h1 hl h3 h4 h2
      have hlen : ∀ k t ts, KTy P n k t = true → P.cellTypes d t = some ts → ts.length = k.size := fun k t ts h1 h2 => KTy_len h1 h2
      unfold Program.cellTypes at hts
      rw [hu] at hts
      cases u <;> first | (cases h; done) | skip
      all_goals simp only at h
      · split at h <;> first | (cases h; done) | (exact absurd rfl hflat)
      · split at h <;> first | (cases h; done) | (exact absurd rfl hflat)
      · split at h <;> first | (cases h; done) | (exact absurd rfl hflat)
      · rename_i e
        split at h <;> first | (cases h; done) | skip
        simp only [Bool.and_eq_true, beq_iff_eq] at h
        simp only [Option.some.injEq] at hts
        subst hts
        exact hv.list hu h.1 h.2.1 h.2.2 hx hok
      · rename_i m e
        simp only [Bool.and_eq_true, beq_iff_eq] at h
        obtain ⟨xs, m', _, _, hl, hxl, hx⟩ := DataW.trod_array hu hx
        simp only at hts
        cases hc : P.cellTypes d e with
        | none => rw [hc] at hts; cases hts
        | some te =>
          rw [hc] at hts
          obtain rfl := Option.some.inj hts
          have htm : ((List.range m).map fun i => (e, i * P.cellsOf e)).mapM (fun p : TypeId × Nat => P.cellTypes d p.1) = some (List.replicate m te) := by
            rw [mapM_map, mapM_const (x := te) (fun _ => hc)]; simp
          have := KFs_read (Q := Q) (R := R) hT hR cs h.2 (fun p hp => by
            have hty := KFs_types (g := fun t => P.cellTypes d t) hlen h.2 htm p hp
            simp only [List.mem_map, List.mem_range] at hp
            obtain ⟨i, hi, rfl⟩ := hp
            have := hx i hi
            rw [List.getElem?_eq_getElem (by omega)] at this
            exact ⟨⟨_, _, this⟩, _, hty.2, okc_part hok _ _⟩) hf ρ σ hv
          rwa [List.drop_zero, List.take_of_length_le (by omega)] at this
      · rename_i fs
        simp only [Bool.and_eq_true, beq_iff_eq] at h
        obtain ⟨xs, m', _, _, hl, hxl, hx⟩ := DataW.trod_struct hu hx
        simp only at hts
        cases hc : fs.toList.mapM fun f => P.cellTypes d f.type with
        | none => rw [hc] at hts; cases hts
        | some tss =>
          rw [hc] at hts
          obtain rfl := Option.some.inj hts
          have htm : (fs.toList.map fun f => (f.type, f.offset)).mapM (fun p : TypeId × Nat => P.cellTypes d p.1) = some tss := by
            rw [mapM_map]; exact hc
          have := KFs_read (Q := Q) (R := R) hT hR cs h.2 (fun p hp => by
            have hty := KFs_types (g := fun t => P.cellTypes d t) hlen h.2 htm p hp
            simp only [List.mem_map] at hp
            obtain ⟨f, hf', rfl⟩ := hp
            obtain ⟨i, hi⟩ := range_mem_get hf'
            have := hx i f hi
            have hil : i < fs.size := (Array.getElem?_eq_some_iff.1 hi).1
            rw [List.getElem?_eq_getElem (by omega)] at this
            exact ⟨⟨_, _, this⟩, _, hty.2, okc_part hok _ _⟩) hf ρ σ hv
          rwa [List.drop_zero, List.take_of_length_le (by omega)] at this
def isAgg (P : Program) (t : TypeId) : Bool := match P.underlying t with
  | some (.struct _) => true
  | some (.array _ _) => true
  | _ => false
theorem View.arg {ρ : Plc} {σ : Heap} (h : View w ρ σ) {n : Nat} {k : Kind} {t : TypeId} {v : Value} {d : DataW H} {p : List MemPlace} (hk : KTy P n k t = true) (hl : k.lev1 = true) (ha : isAgg P t = !k.one) (hok : Value.okWide P w r base t v) (hd : DataW.Trod enc P w 0 (fun _ => true) true t v d p) :
    ∃ ρ' σ' vv x, View w ρ' σ' ∧ More ρ σ ρ' σ' ∧ VRel ρ' σ'.n vv v ∧ KV σ' k x vv ∧ KWf k x := by
  obtain ⟨fuel, hd⟩ := hd
  by_cases hagg : isAgg P t = true
  · have hone : k.one = false := by rw [hagg] at ha; simpa using ha.symm
    have : ∃ cs, v = .agg cs ∧ cs.size = P.cellsOf t ∧ Row.okWide P w r base t cs := by
      unfold isAgg at hagg
      unfold Value.okWide at hok
      split at hagg <;> first | (cases hagg; done) | skip
      · rename_i hu; rw [hu] at hok; exact hok
      · rename_i hu; rw [hu] at hok; exact hok
    obtain ⟨cs, rfl, hsz, ts, hts, _, hcells⟩ := this
    have hlen := KTy_len hk hts
    have hcs : P.cellsOf t = k.size := by
      unfold isAgg at hagg
      cases n with
      | zero => cases hk
      | succ n =>
        unfold KTy at hk
        split at hagg <;> first | (cases hagg; done) | skip
        all_goals
          rename_i hu
          rw [hu] at hk
          simp only [Bool.and_eq_true, beq_iff_eq] at hk
          exact hk.1
    have hokc : okc P w r base ts cs.toList := fun i v u h1 h2 => by
      have hi : i < ts.length := (List.getElem?_eq_some_iff.1 h2).1
      obtain ⟨u', h3, h4⟩ := hcells i v (by simpa using h1)
      rw [Nat.mod_eq_of_lt hi] at h3
      obtain rfl := Option.some.inj (h2.symm.trans h3)
      exact h4
    obtain ⟨ρ', σ', vs, x, k1, k2, k3, k4, k5⟩ := KTy_read hk hl hts hokc (show DataW.trod enc P w 0 _ true fuel t cs.toList = _ from hd) ρ σ h
    exact ⟨ρ', σ', .agg vs.toArray, x, k1, k2, VRel.agg_of (ds := cs.toList) k3, .inr ⟨hone, vs, rfl, k4⟩, k5⟩
  · have hone : k.one = true := by
      have : isAgg P t = false := by simpa using hagg
      rw [this] at ha; simpa using ha.symm
    have hsize := Kind.one_size hone
    have hcell : Cell.okWide P w r base t v ∧ v.cells.toList = [v] := by
      have h1 : isAgg P t = false := by simpa using hagg
      unfold isAgg at h1
      have h2 : Cell.okWide P w r base t v := by
        unfold Value.okWide at hok
        split at hok
        · rename_i hu; rw [hu] at h1; cases h1
        · rename_i hu; rw [hu] at h1; cases h1
        · exact hok
      refine ⟨h2, ?_⟩
      cases v <;> first | rfl | skip
      all_goals
        exfalso
        cases n with
        | zero => cases hk
        | succ n =>
          unfold KTy at hk
          unfold Cell.okWide Cell.ok at h2
          cases hu : P.underlying t with
          | none => rw [hu] at hk; cases hk
          | some u =>
            rw [hu] at hk h2 h1
            cases u <;> first | (cases hk; done) | (cases h1; done) | (cases h2; done) | (simp at h2; done)
    have hts : P.cellTypes 1 t = some [t] := by
      have h1 : isAgg P t = false := by simpa using hagg
      unfold isAgg at h1
      unfold Program.cellTypes
      cases n with
      | zero => cases hk
      | succ n =>
        unfold KTy at hk
        cases hu : P.underlying t with
        | none => rw [hu] at hk; cases hk
        | some u =>
          rw [hu] at h1
          cases u <;> first | rfl | (cases h1; done)
    rw [hcell.2] at hd
    have hokc : okc P w r base [t] [v] := fun i v' u h1 h2 => by
      cases i with
      | zero => cases h1; cases h2; exact hcell.1
      | succ i => simp at h1
    obtain ⟨ρ', σ', vs, x, k1, k2, k3, k4, k5⟩ := KTy_read hk hl hts hokc hd ρ σ h
    have : vs.length = 1 := by rw [KC.length k4]; exact hsize
    obtain ⟨vv, rfl⟩ := List.length_eq_one_iff.1 this
    exact ⟨ρ', σ', vv, x, k1, k2, k3.2 0 _ _ rfl rfl, .inl ⟨hone, k4⟩, k5⟩
def AWf : (ks : List Kind) → AT ks → Prop
  | [], _ => True
  | [k], x => KWf k x
  | k :: k' :: ks, x => KWf k x.1 ∧ AWf (k' :: ks) x.2
def ktys (P : Program) : List Kind → List TypeId → Bool
  | [], [] => true
  | k :: ks, t :: ts => (KTy P 8 k t && (k.lev1 && (isAgg P t == !k.one))) && ktys P ks ts
  | _, _ => false
theorem View.args : ∀ {ks : List Kind} {ts : List TypeId} {vs : List Value} {ds : List (DataW H)} {ps : List MemPlace} {ρ : Plc} {σ : Heap}, View w ρ σ → ktys P ks ts = true → (∀ (j : Nat) t v, ts[j]? = some t → vs[j]? = some v → Value.okWide P w r base t v) → DataW.TrodAll enc P w 0 (fun _ => true) true ts vs ds ps →
    ∃ ρ' σ' vvs x, View w ρ' σ' ∧ More ρ σ ρ' σ' ∧ LRel ρ' σ'.n vvs vs ∧ atVals σ' ks x vvs ∧ AWf ks x
  | [], [], vs, ds, ps, ρ, σ, h, _, _, hA => by
    obtain ⟨rfl, rfl, rfl⟩ := trodAll_nil hA
    exact ⟨ρ, σ, [], (), h, More.refl _ _, .nil _ _, rfl, trivial⟩
  | [k], [t], vs, ds, ps, ρ, σ, h, hk, hv, hA => by
    obtain ⟨v, vs', d, ds', p, q, rfl, rfl, rfl, h1, h2⟩ := trodAll_cons hA
    obtain ⟨rfl, rfl, rfl⟩ := trodAll_nil h2
    simp only [ktys, Bool.and_eq_true, beq_iff_eq] at hk
    obtain ⟨ρ', σ', vv, x, k1, k2, k3, k4, k5⟩ := h.arg hk.1.1 hk.1.2.1 hk.1.2.2 (hv 0 t v rfl rfl) h1
    exact ⟨ρ', σ', [vv], x, k1, k2, .one k3, ⟨vv, rfl, k4⟩, k5⟩
  | k :: k' :: ks, t :: ts, vs, ds, ps, ρ, σ, h, hk, hv, hA => by
    obtain ⟨v, vs', d, ds', p, q, rfl, rfl, rfl, h1, h2⟩ := trodAll_cons hA
    simp only [ktys, Bool.and_eq_true, beq_iff_eq] at hk
    obtain ⟨ρ1, σ1, vv, x, k1, k2, k3, k4, k5⟩ := h.arg hk.1.1 hk.1.2.1 hk.1.2.2 (hv 0 t v rfl rfl) h1
    obtain ⟨ρ2, σ2, vvs, y, m1, m2, m3, m4, m5⟩ := k1.args (ks := k' :: ks) hk.2 (fun j t v h1 h2 => hv (j + 1) t v h1 h2) h2
    exact ⟨ρ2, σ2, vv :: vvs, (x, y), m1, k2.trans m2, .cons (k3.mono m2.n m2.pl) m3, ⟨vv, vvs, rfl, k4.vcall m2.le, m4⟩, k5, m5⟩
  | [], _ :: _, _, _, _, _, _, _, hk, _, _ | _ :: _, [], _, _, _, _, _, _, hk, _, _ | [_], _ :: _ :: _, _, _, _, _, _, _, hk, _, _ => by simp [ktys] at hk
theorem law_calls {f : Nat} {sp : CSp} (hsp : OkC P f sp) (he : Enterable P f) {ks : List Kind} {ts : List TypeId} {args : Array Value} {ds : List (DataW H)} {ps : List MemPlace} (hk : ktys P ks ts = true)
    (hv : ∀ (j : Nat) t v, ts[j]? = some t → args.toList[j]? = some v → Value.okWide P w r base t v) (hA : DataW.TrodAll enc P w 0 (fun _ => true) true ts args.toList ds ps)
    (hs : ∀ x : AT ks, AWf ks x → ∃ c, sp (fun _ _ => none) (atSVs ks x) = some (c, .val .bo true, []) ∧ c) : Calls P f args w fun e w' => e = .returned (.bool true) ∧ Below w.heap.size w w' := by
  obtain ⟨ρ, σ, vvs, x, k1, k2, k3, k4, k5⟩ := (View.empty w).args hk hv hA
  obtain ⟨c, h1, h2⟩ := hs x k5
  exact k1.calls k3 (hsp.true he (atSVs_sound k4) h1 h2)
end
end Go.V
namespace Go.V
open Go
theorem trodAll_len {H : Type} {enc : TypeId × Value → H} {P : Program} {w : World} {b : Nat} {sp : Nat → Bool} {hd : Bool} : ∀ {ts : List TypeId} {vs : List Value} {ds : List (DataW H)} {ps : List MemPlace}, DataW.TrodAll enc P w b sp hd ts vs ds ps → ds.length = ts.length
  | [], [], [], _, _ => rfl
  | t :: ts, v :: vs, d :: ds, ps, h => by
    obtain ⟨p, q, _, h2, _⟩ := h
    simp [trodAll_len h2]
  | [], [], _ :: _, _, h | [], _ :: _, _, _, h | _ :: _, [], _, _, h | _ :: _, _ :: _, [], _, h => h.elim
end Go.V
namespace Go.V
open Go
def lbeq {α : Type} (p : α → α → Bool) : List α → List α → Bool
  | [], [] => true
  | a :: l, b :: m => p a b && lbeq p l m
  | _, _ => false
theorem lbeq_eq {α : Type} {p : α → α → Bool} (hp : ∀ a b, p a b = true → a = b) : ∀ l m, lbeq p l m = true → l = m
  | [], [], _ => rfl
  | a :: l, b :: m, h => by
    simp only [lbeq, Bool.and_eq_true] at h
    rw [hp a b h.1, lbeq_eq hp l m h.2]
  | [], _ :: _, h => by cases h
  | _ :: _, [], h => by cases h
def vbeq : Nat → Value → Value → Bool
  | 0, _, _ => false
  | f + 1, a, b => match a, b with
    | .bool x, .bool y => x == y
    | .int k x, .int k' y => decide (k = k') && decide (x = y)
    | .string s, .string t => decide (s.data.toList = t.data.toList)
    | .pointer none, .pointer none => true
    | .pointer (some ⟨i, o, none⟩), .pointer (some ⟨j, q, none⟩) => Nat.beq i j && Nat.beq o q
    | .slice none l c, .slice none l' c' => Nat.beq l l' && Nat.beq c c'
    | .slice (some ⟨i, o, none⟩) l c, .slice (some ⟨j, q, none⟩) l' c' => Nat.beq i j && (Nat.beq o q && (Nat.beq l l' && Nat.beq c c'))
    | .map x, .map y => decide (x = y)
    | .chan none, .chan none => true
    | .nilFunc, .nilFunc => true
    | .nilIface, .nilIface => true
    | .func (.func g) fs cs, .func (.func g') fs' cs' => decide (g = g') && (lbeq (vbeq f) fs.toList fs'.toList && lbeq (vbeq f) cs.toList cs'.toList)
    | .iface t v, .iface t' v' => decide (t = t') && vbeq f v v'
    | .agg cs, .agg ds => lbeq (vbeq f) cs.toList ds.toList
    | .tuple cs, .tuple ds => lbeq (vbeq f) cs.toList ds.toList
    | _, _ => false
theorem arr_eq {α : Type} {a b : Array α} (h : a.toList = b.toList) : a = b := by
  cases a; cases b; simp at h; rw [h]
theorem vbeq_eq : ∀ (f : Nat) (a b : Value), vbeq f a b = true → a = b := by
  intro f
  induction f with
  | zero => intro a b h; cases h
  | succ f ih =>
    intro a b h
    unfold vbeq at h
    split at h <;> first
      | (cases h; done)
      | rfl
      | (simp at h; subst h; rfl)
      | (simp at h; obtain ⟨rfl, rfl⟩ := h; rfl)
      | (simp at h; obtain ⟨rfl, rfl, rfl, rfl⟩ := h; rfl)
      | skip
    · rename_i s t
      have h := of_decide_eq_true h
      have := arr_eq h
      cases s; cases t; simp at this; rw [this]
    · rename_i g fs cs g' fs' cs'
      simp only [Bool.and_eq_true, decide_eq_true_eq] at h
      obtain ⟨rfl, h1, h2⟩ := h
      rw [arr_eq (lbeq_eq ih _ _ h1), arr_eq (lbeq_eq ih _ _ h2)]
    · rename_i t v t' v'
      simp only [Bool.and_eq_true, decide_eq_true_eq] at h
      obtain ⟨rfl, h1⟩ := h
      rw [ih _ _ h1]
    · rw [arr_eq (lbeq_eq ih _ _ h)]
    · rw [arr_eq (lbeq_eq ih _ _ h)]
def EB.beq : EB → EB → Bool
  | .cells c e w t, .cells c' e' w' t' => decide (e = e') && (w == w' && (t == t' && lbeq (vbeq 20) c c'))
  | .map es cl w, .map es' cl' w' => Nat.beq cl cl' && (w == w' && lbeq (fun a b => vbeq 20 a.1 b.1 && (vbeq 20 a.2.1 b.2.1 && Nat.beq a.2.2 b.2.2)) es es')
  | .iter m s sn l, .iter m' s' sn' l' => Nat.beq m m' && (Nat.beq s s' && (Nat.beq l l' && decide (sn = sn')))
  | .lp .ready none, .lp .ready none => true
  | .lp .busy none, .lp .busy none => true
  | _, _ => false
theorem EB.beq_eq {a b : EB} (h : a.beq b = true) : a = b := by
  unfold EB.beq at h
  split at h <;> first
    | (cases h; done)
    | rfl
    | skip
  · simp only [Bool.and_eq_true, decide_eq_true_eq, beq_iff_eq] at h
    obtain ⟨rfl, rfl, rfl, h⟩ := h
    rw [lbeq_eq (vbeq_eq 20) _ _ h]
  · simp only [Bool.and_eq_true, beq_iff_eq, Nat.beq_eq] at h
    obtain ⟨rfl, rfl, h⟩ := h
    rw [lbeq_eq (fun a b h => by
      simp only [Bool.and_eq_true, Nat.beq_eq] at h
      obtain ⟨a1, a2, a3⟩ := a
      obtain ⟨b1, b2, b3⟩ := b
      obtain ⟨h1, h2, h3⟩ := h
      simp at h1 h2 h3
      rw [vbeq_eq _ _ _ h1, vbeq_eq _ _ _ h2, h3]) _ _ h]
  · simp only [Bool.and_eq_true, decide_eq_true_eq, Nat.beq_eq] at h
    obtain ⟨rfl, rfl, rfl, rfl⟩ := h
    rfl
noncomputable def CH.newOk (h h' : CH) : Bool := Nat.ble h.n h'.n && (h'.room && (List.range' h.n (h'.n - h.n)).all fun i => match h'.get i with
  | some (.lp _ _) => false
  | _ => true)
structure AnsOps (A : Type) where
  fail : A
  both : A → A → A
structure Good {A : Type} (R : AnsOps A) (G : A → Prop) : Prop where
  fail : ¬ G R.fail
  both : ∀ a b, G (R.both a b) → G a ∧ G b
def boolOps : AnsOps Bool := ⟨false, and⟩
theorem boolGood : Good boolOps (· = true) := ⟨by simp [boolOps], fun a b h => by simpa [boolOps] using h⟩
noncomputable def oneOps : AnsOps (Option (Value × CH)) := ⟨none, fun _ _ => none⟩
theorem oneGood (x : Value × CH) : Good oneOps (· = some x) := ⟨by simp [oneOps], fun a b h => by simp [oneOps] at h⟩
noncomputable def CH.same (h h' : CH) : Bool := Nat.beq h.n h'.n && (List.range h.n).all fun i => match h.get i, h'.get i with
  | none, none => true
  | some a, some b => a.beq b
  | _, _ => false
def EB.plainE : EB → Bool
  | .cells c _ _ _ => c.all plainV
  | .map es _ _ => es.all fun kv => plainV kv.2.1
  | _ => false
noncomputable def CH.keepOk (h h' : CH) : Bool := Nat.ble h.n h'.n && (List.range h.n).all fun i => match h.get i, h'.get i with
  | none, none => true
  | some a, some b => b.plainE || a.beq b
  | _, _ => false
def gcI (n0 : Nat) (refs : List Nat) (i : Nat) : Nat × List Nat :=
  if i < n0 then (i, refs) else if refs.contains i = true then (n0 + refs.idxOf i, refs) else (n0 + refs.length, refs ++ [i])
def gcLs (g : List Nat → Value → Option (Value × List Nat)) : List Value → List Nat → Option (List Value × List Nat)
  | [], refs => some ([], refs)
  | v :: vs, refs => match g refs v with
    | none => none
    | some p => match gcLs g vs p.2 with
      | none => none
      | some q => some (p.1 :: q.1, q.2)
def gcX (n0 : Nat) : Nat → List Nat → Value → Option (Value × List Nat)
  | 0, _, _ => none
  | f + 1, refs, v => match v with
    | .pointer (some ⟨i, o, none⟩) => some (.pointer (some ⟨(gcI n0 refs i).1, o, none⟩), (gcI n0 refs i).2)
    | .slice (some ⟨i, o, none⟩) l c => some (.slice (some ⟨(gcI n0 refs i).1, o, none⟩) l c, (gcI n0 refs i).2)
    | .map (some i) => some (.map (some (gcI n0 refs i).1), (gcI n0 refs i).2)
    | .chan none => some (.chan none, refs)
    | .iface t u => match gcX n0 f refs u with
      | some p => some (.iface t p.1, p.2)
      | none => none
    | .agg cs => match gcLs (gcX n0 f) cs.toList refs with
      | some p => some (.agg p.1.toArray, p.2)
      | none => none
    | .tuple cs => match gcLs (gcX n0 f) cs.toList refs with
      | some p => some (.tuple p.1.toArray, p.2)
      | none => none
    | .func (.func g) fs cs => match gcLs (gcX n0 f) fs.toList refs with
      | some p => match gcLs (gcX n0 f) cs.toList p.2 with
        | some q => some (.func (.func g) p.1.toArray q.1.toArray, q.2)
        | none => none
      | none => none
    | v => if plainV v = true then some (v, refs) else none
def gcEs (n0 : Nat) : List MEnt → List Nat → Option (List MEnt × List Nat)
  | [], refs => some ([], refs)
  | e :: es, refs => match gcX n0 8 refs e.2.1 with
    | none => none
    | some p => match gcEs n0 es p.2 with
      | none => none
      | some q => some ((e.1, p.1, e.2.2) :: q.1, q.2)
def gcB (n0 : Nat) (refs : List Nat) : EB → Option (EB × List Nat)
  | .cells c e w t => match gcLs (gcX n0 8) c refs with
    | some p => some (.cells p.1 e w t, p.2)
    | none => none
  | .map es cl w => match gcEs n0 es refs with
    | some p => some (.map p.1 cl w, p.2)
    | none => none
  | _ => none
noncomputable def gcRun (h' : CH) (n0 : Nat) : Nat → Nat → List Nat → CH → Option (CH × List Nat)
  | 0, _, _, _ => none
  | f + 1, k, refs, acc => if refs.length ≤ k then (if k = refs.length then some (acc, refs) else none) else match h'.get (refs.getD k 0) with
    | none => none
    | some b => match gcB n0 refs b with
      | none => none
      | some p => if acc.room = true then gcRun h' n0 f (k + 1) p.2 (acc.push p.1) else none
noncomputable def gcHeap (h h' : CH) (refs : List Nat) : Option (CH × List Nat) :=
  if h.keepOk h' = true then gcRun h' h.n 100000 0 refs ⟨h'.t, h.n⟩ else none
noncomputable def gcDone (h h' : CH) (v : Value) : Option (Value × CH) := match gcX h.n 8 [] v with
  | none => none
  | some p => match gcHeap h h' p.2 with
    | none => none
    | some q => some (p.1, q.1)
noncomputable def joinOps : AnsOps (Option (Value × CH)) := ⟨none, fun a b => match a with
  | some x => match b with
    | some y => if vbeq 20 x.1 y.1 = true ∧ x.2.same y.2 = true then some x else none
    | none => none
  | none => none⟩
structure ET where
  t : GT Value
  m : Nat
noncomputable def ET.get (e : ET) (i : Nat) : Value := Bool.rec (motive := fun _ => Value) undef (e.t.get undef i) (Nat.blt i e.m)
noncomputable def ET.set (e : ET) (i : Nat) (v : Value) : ET := Bool.rec (motive := fun _ => ET) e ⟨e.t.set undef 32 i v, e.m⟩ (Nat.blt i e.m)
noncomputable def ET.put (e : ET) (d : Option Nat) (v : Value) : ET := Option.rec (motive := fun _ => ET) e (fun d => e.set d v) d
noncomputable def etL (l : List Value) : Nat → GT Value → GT Value := List.rec (motive := fun _ => Nat → GT Value → GT Value) (fun _ t => t) (fun v _ ih i t => ih (i + 1) (t.set undef 32 i v)) l
noncomputable def ET.of (args : List Value) (nt : Nat) : ET := ⟨etL args 0 .nil, args.length + (nt - args.length)⟩
noncomputable def evalE (e : ET) (x : Operand) : Value := Operand.rec (motive := fun _ => Value) (fun t => e.get t) (fun v => v) (fun _ => poison) (fun f => .func (.func f) #[] #[]) x
noncomputable def esetPs (e : ET) (ps : List Nat) : List Value → ET := List.rec (motive := fun _ => ET → List Value → ET) (fun e _ => e) (fun p _ ih e vs => List.rec (motive := fun _ => ET) e (fun v vs _ => ih (e.set p v) vs) vs) ps e
noncomputable def ewant (e : ET) (g : Option (Nat × Bool)) : Option Bool := match g with
  | none => some true
  | some (d, want) => match e.get d with
    | .bool b => some (b == want)
    | .tuple _ => some false
    | _ => none
noncomputable def ET.list (e : ET) : List Value := (List.range e.m).map e.get
noncomputable def gcEnv (h h' : CH) (e : ET) : Option (Value × CH) := gcDone h h' (.tuple e.list.toArray)
structure RCtx where
  ps : List Nat
  a : VCode
  b : VCode
  env : ET
abbrev Ys := List (Nat × RCtx)
def Ys.find : Ys → Nat → Option RCtx
  | [], _ => none
  | (j, c) :: l, i => if Nat.beq i j = true then some c else Ys.find l i
inductive FEnt where
  | code (vc : VCode) (rs : List VResult) (nt : Nat)
  | codeJ (vc : VCode) (rs : List VResult) (nt : Nat)
  | same
abbrev Tab := FuncId → Option FEnt
abbrev EvFn := ∀ {A : Type}, AnsOps A → Ys → VCode → Option Nat → ET → CH → (Exit → ET → CH → A) → A
noncomputable def eresult (env : ET) (σ : CH) : VResult → Option Value
  | .tmp t => some (env.get t)
  | .cell a agg size => match eLoad agg size (env.get a) σ with | some p => some p.1 | none => none
noncomputable def eresultL (env : ET) (σ : CH) : List VResult → Option (List Value)
  | [] => some []
  | r :: rs => match eresult env σ r with
    | none => none
    | some v => match eresultL env σ rs with
      | none => none
      | some vs => some (v :: vs)
noncomputable def eresults (env : ET) (σ : CH) (rs : List VResult) : Option Value :=
  match rs with
  | [r] => eresult env σ r
  | rs => match eresultL env σ rs with | some vs => some (.tuple vs.toArray) | none => none
section
variable (T : Tab) (ev : EvFn) {A : Type} (R : AnsOps A) (ys : Ys)
noncomputable def eend (fail : A) (rs : List VResult) (k : Value → CH → A) : Exit → ET → CH → A := fun e env h' => match e with
    | .normal => (match eresults env h' rs with | some v => k v h' | none => fail)
    | .ret => (match eresults env h' rs with | some v => k v h' | none => fail)
    | _ => fail
noncomputable def ecall (f : FuncId) (args : List Value) (h : CH) (k : Value → CH → A) : A :=
  match T f with
  | some (.code vc rs nt) => match Nat.ble (ET.of args nt).m 1000000 with
    | true => ev R ys vc none (ET.of args nt) h (eend R.fail rs k)
    | false => R.fail
  | some (.codeJ vc rs nt) => match Nat.ble (ET.of args nt).m 1000000 with
    | true => (match ev joinOps ys vc none (ET.of args nt) h (eend none rs fun v h' => gcDone h h' v) with
      | some x => if x.2.room = true ∧ Nat.ble h.n x.2.n = true then k x.1 x.2 else R.fail
      | none => R.fail)
    | false => R.fail
  | some .same => match args with
    | [v] => k v h
    | _ => R.fail
  | none => R.fail
noncomputable def eroundK (i : Nat) (k : Value → CH → A) : Exit → ET → CH → A := fun e _ h =>
  match h.get i with
  | some (.lp .busy none) => match e with
    | .normal => k (.bool true) (h.upd i (.lp .ready none))
    | .ret => k (.bool false) (h.upd i (.lp .done (some .ret)))
    | .exit id => k (.bool false) (h.upd i (.lp .done (some (.exit id))))
    | _ => R.fail
  | _ => R.fail
noncomputable def eround (c : RCtx) (i : Nat) (k : Value → CH → A) : Exit → ET → CH → A := fun e env1 h1 => match e with
  | .normal => (match h1.get i with
    | some (.lp .ready none) => ev R ys c.b (some i) env1 (h1.upd i (.lp .busy none)) (eroundK R i k)
    | _ => R.fail)
  | _ => R.fail
noncomputable def eyield (i : Nat) (args : List Value) (h : CH) (k : Value → CH → A) : A :=
  match ys.find i with
  | some c => match h.get i with
    | some (.lp .ready none) => if args.length = c.ps.length then ev R ys c.a (some i) (esetPs c.env c.ps args) h (eround ev R ys c i k) else R.fail
    | _ => R.fail
  | none => R.fail
noncomputable def enextC (i m since clock : Nat) (seen : List Nat) (h : CH) (k : Value → CH → A) : List MEnt → Option A
  | [] => none
  | e :: es => if seen.contains e.2.2 = true then enextC i m since clock seen h k es
    else match enextC i m since clock seen h k es with
      | none => some (k (.tuple #[.bool true, e.1, e.2.1]) (h.upd i (.iter m since (seen ++ [e.2.2]) clock)))
      | some a => some (R.both (k (.tuple #[.bool true, e.1, e.2.1]) (h.upd i (.iter m since (seen ++ [e.2.2]) clock))) a)
noncomputable def enext (x : Value) (h : CH) (k : Value → CH → A) : A :=
  match x with
  | .pointer (some ⟨i, 0, none⟩) => match h.get i with
    | some (.iter m since seen last) => match h.mapAt m with
      | some (es, clock, _) =>
        if (seen.isEmpty || es.isEmpty || es.any (fun e => decide (e.2.2 < last))) = true ∧ es.all (fun e => plainV e.1) = true then
          (match enextC R i m since clock seen h k es with
          | none => if es.all (fun e => seen.contains e.2.2 || decide (since ≤ e.2.2)) = true then k (.tuple #[.bool false]) h else R.fail
          | some a => if es.all (fun e => seen.contains e.2.2 || decide (since ≤ e.2.2)) = true then R.both (k (.tuple #[.bool false]) h) a else a)
        else R.fail
      | none => R.fail
    | _ => R.fail
  | _ => R.fail
noncomputable def ecallV (f : Value) (args : List Value) (h : CH) (k : Value → CH → A) : A := match f with
    | .func (.func g) first cap => ecall T ev R ys g (first.toList ++ args ++ cap.toList) h k
    | .func (.yield i) _ _ => eyield ev R ys i args h k
    | _ => R.fail
noncomputable def eother (r : Option (Value × CH)) (k : Value → CH → A) : A := match r with
    | some p => k p.1 p.2
    | none => R.fail
noncomputable def evop (o : VOp) (env : ET) (h : CH) (k : Value → CH → A) : A :=
  match o with
  | .callF f args => ecall T ev R ys f (args.map (evalE env)) h k
  | .callV f args => ecallV T ev R ys (evalE env f) (args.map (evalE env)) h k
  | .ext (.nextMap x) => enext R (evalE env x) h k
  | o => eother R (eactF o (evalE env) h) k
noncomputable def evops (l : List VOper) : ET → CH → (ET → CH → A) → A :=
  List.rec (motive := fun _ => ET → CH → (ET → CH → A) → A) (fun env h k => k env h)
    (fun o _ ih env h k => match ewant env o.guard with
      | none => R.fail
      | some true => evop T ev R ys o.op env h fun v h' => ih (env.put o.dst v) h' k
      | some false => ih (env.put o.dst undef) h k) l
noncomputable def ereads (op : VOp) (ev : Operand → Value) (v : Value) (h : CH) : Bool := match eactF op ev h with
  | some q => vbeq 20 q.1 v
  | none => false
def epend (r : Nat) (h : CH) : List (Nat × (CH → Bool)) → Bool
  | [] => true
  | c :: l => (!(Nat.ble r c.1) || c.2 h) && epend r h l
noncomputable def evopsD : List DOper → ET → List CH → CH → List (Nat × (CH → Bool)) → (ET → CH → A) → A
  | [], env, _, h, _, k => k env h
  | o :: rest, env, hs, h, pend, k => match ewant env o.guard with
    | none => R.fail
    | some true => if o.kind = 2 then
        (match evop T ev oneOps ys o.op env h (fun v h' => some (v, h')) with
        | some p => if h.newOk p.2 = true ∧ epend hs.length p.2 pend = true then evopsD rest (env.put o.dst p.1) (hs ++ [p.2]) p.2 pend k else R.fail
        | none => R.fail)
      else if o.kind = 1 then
        (match eactF o.op (evalE env) h with
        | some p => if (hs.drop o.kmin).all (ereads o.op (evalE env) p.1) = true then
            evopsD rest (env.put o.dst p.1) hs h (if hs.length ≤ o.kmax then (o.kmax, ereads o.op (evalE env) p.1) :: pend else pend) k else R.fail
        | none => R.fail)
      else match eactF o.op (evalE env) h with
        | some p => evopsD rest (env.put o.dst p.1) hs h pend k
        | none => R.fail
    | some false => if o.kind = 2 then
        (if epend hs.length h pend = true then evopsD rest (env.put o.dst undef) (hs ++ [h]) h pend k else R.fail)
      else evopsD rest (env.put o.dst undef) hs h pend k
noncomputable def evalt (env : ET) (h : CH) (a : List DOper) : Option (Value × CH) := evopsD T ev joinOps ys a env [h] h [] fun env h' => gcEnv h h' env
noncomputable def evalts (env : ET) (h : CH) : List (List DOper) → Option (Value × CH)
  | [] => none
  | [a] => evalt T ev ys env h a
  | a :: b :: r => joinOps.both (evalt T ev ys env h a) (evalts env h (b :: r))
noncomputable def evsegs : List DSeg → ET → CH → (ET → CH → A) → A
  | [], env, h, k => k env h
  | .one o :: rest, env, h, k => evops T ev R ys [o] env h fun env h => evsegs rest env h k
  | .alts [a] :: rest, env, h, k => evopsD T ev R ys a env [h] h [] fun env h => evsegs rest env h k
  | .alts l :: rest, env, h, k => match evalts T ev ys env h l with
    | some x => (match x.1 with
      | .tuple vs => if x.2.room = true ∧ Nat.ble h.n x.2.n = true ∧ vs.toList.length = env.m then evsegs rest (ET.of vs.toList 0) x.2 k else R.fail
      | _ => R.fail)
    | none => R.fail
noncomputable def inLpOk (h : CH) : Option Nat → Bool
  | none => true
  | some i => match h.get i with
    | some (.lp _ _) => true
    | _ => false
def notBusy : LoopState → Bool
  | .busy => false
  | _ => true
noncomputable def eendR (env : ET) (i : Nat) (k : Exit → ET → CH → A) : Value → CH → A := fun _ h =>
  match h.get i with
  | some (.lp st pend) => if notBusy st = true then (match pend with
      | none => k .normal env (h.kill i)
      | some .ret => k .ret env (h.kill i)
      | some (.exit id) => k (.exit id) env (h.kill i)
      | some _ => R.fail) else R.fail
  | _ => R.fail
noncomputable def eseqK (kb k : Exit → ET → CH → A) : Exit → ET → CH → A := fun e env h => match e with
  | .normal => kb .normal env h
  | e => k e env h
noncomputable def eblockK (id : Nat) (k : Exit → ET → CH → A) : Exit → ET → CH → A := fun e env h => match e with
  | .exit id' => if id' = id then k .normal env h else k (.exit id') env h
  | e => k e env h
noncomputable def econd (v : Value) (a b : A) : A := match v with
  | .bool true => a
  | .bool false => b
  | _ => R.fail
noncomputable def erange (g : Value) (ps : List Nat) (a b : VCode) (ro : Option Nat) (env : ET) (h : CH) (k : Exit → ET → CH → A) : A := match g with
  | .func (.func f) first cap => match T f with
    | some (.code _ _ _) => if inLpOk h ro = true ∧ h.room = true then
        ecall T ev R ((h.n, ⟨ps, a, b, env⟩) :: ys) f (first.toList ++ [.func (.yield h.n) #[] #[]] ++ cap.toList) (h.push (.lp .ready none)) (eendR R env h.n k)
      else R.fail
    | _ => R.fail
  | _ => R.fail
noncomputable def evCode (c : VCode) : Option Nat → ET → CH → (Exit → ET → CH → A) → A :=
  VCode.rec (motive := fun _ => Option Nat → ET → CH → (Exit → ET → CH → A) → A)
    (fun _ env h k => k .normal env h)
    (fun ops _ env h k => evops T ev R ys ops env h (k .normal))
    (fun segs _ env h k => evsegs T ev R ys segs env h (k .normal))
    (fun g ps a b _ _ ro env h k => erange T ev R ys (evalE env g) ps a b ro env h k)
    (fun _ _ iha ihb ro env h k => iha ro env h (eseqK (fun _ env' h' => ihb ro env' h' k) k))
    (fun c _ _ iha ihb ro env h k => econd R (evalE env c) (iha ro env h k) (ihb ro env h k))
    (fun id _ ih ro env h k => ih ro env h (eblockK id k))
    (fun b ih ro env h k => ih ro env h (eseqK (fun _ env' h' => ev R ys (.loop b) ro env' h' k) k))
    (fun id _ env h k => k (.exit id) env h)
    (fun _ env h k => k .ret env h)
    (fun _ _ _ _ => R.fail) c
end
noncomputable def veval (T : Tab) (n : Nat) : EvFn :=
  Nat.rec (motive := fun _ => EvFn) (fun R _ _ _ _ _ _ => R.fail) (fun _ ih {_} R ys c ro env h k => evCode T ih R ys c ro env h k) n
end Go.V
namespace Go.V
open Go
structure FRel (e : ET) (env : Env) : Prop where
  m : e.m = List.length env
  sm : e.m ≤ 1000000
  get : ∀ i, env.getD i undef = e.get i
theorem ET.get_lt {e : ET} {i : Nat} (hi : i < e.m) : e.get i = e.t.get undef i := by
  unfold ET.get
  rw [show Nat.blt i e.m = true from Nat.ble_eq_true_of_le hi]
theorem ET.get_ge {e : ET} {i : Nat} (hi : e.m ≤ i) : e.get i = undef := by
  unfold ET.get
  cases hb : Nat.blt i e.m with
  | false => rfl
  | true => have := Nat.le_of_ble_eq_true hb; omega
theorem ET.set_lt {e : ET} {i : Nat} {v : Value} (hi : i < e.m) : e.set i v = ⟨e.t.set undef 32 i v, e.m⟩ := by
  unfold ET.set
  rw [show Nat.blt i e.m = true from Nat.ble_eq_true_of_le hi]
theorem ET.set_ge {e : ET} {i : Nat} {v : Value} (hi : e.m ≤ i) : e.set i v = e := by
  unfold ET.set
  cases hb : Nat.blt i e.m with
  | false => rfl
  | true => have := Nat.le_of_ble_eq_true hb; omega
theorem ET.set_m (e : ET) (i : Nat) (v : Value) : (e.set i v).m = e.m := by
  rcases Nat.lt_or_ge i e.m with h | h
  · rw [ET.set_lt h]
  · rw [ET.set_ge h]
theorem ET.get_set {e : ET} (hs : e.m ≤ 1000000) (i : Nat) (v : Value) (j : Nat) : (e.set i v).get j = if j = i ∧ i < e.m then v else e.get j := by
  rcases Nat.lt_or_ge i e.m with hi | hi
  · rw [ET.set_lt hi]
    rcases Nat.lt_or_ge j e.m with hj | hj
    · rw [ET.get_lt (e := ⟨e.t.set undef 32 i v, e.m⟩) hj, ET.get_lt hj]
      show (e.t.set undef 32 i v).get undef j = _
      rw [GT.get_set undef 32 _ _ _ _ (by omega)]
      by_cases h : j = i
      · rw [if_pos h, if_pos ⟨h, hi⟩]
      · rw [if_neg h, if_neg (fun e => h e.1)]
    · rw [ET.get_ge (e := ⟨e.t.set undef 32 i v, e.m⟩) hj, ET.get_ge hj, if_neg (by rintro ⟨rfl, _⟩; omega)]
  · rw [ET.set_ge hi, if_neg (by rintro ⟨_, h⟩; omega)]
theorem FRel.set {e : ET} {env : Env} (h : FRel e env) (i : Nat) (v : Value) : FRel (e.set i v) (env.set i v) := by
  refine ⟨by rw [ET.set_m, List.length_set]; exact h.m, by rw [ET.set_m]; exact h.sm, fun j => ?_⟩
  rw [ET.get_set h.sm, ← h.get, List.getD_eq_getElem?_getD, List.getD_eq_getElem?_getD, List.getElem?_set, h.m]
  by_cases hij : i = j
  · subst hij
    rcases Nat.lt_or_ge i (List.length env) with hi | hi
    · rw [if_pos rfl, if_pos hi, if_pos ⟨rfl, hi⟩]; rfl
    · rw [if_pos rfl, if_neg (by omega), if_neg (by rintro ⟨_, h⟩; omega), List.getElem?_eq_none hi]
  · rw [if_neg hij, if_neg (fun e => hij e.1.symm)]
theorem FRel.put {e : ET} {env : Env} (h : FRel e env) (d : Option Nat) (v : Value) : FRel (e.put d v) (putE env d v) := by
  cases d with
  | none => exact h
  | some d => exact h.set d v
theorem evalE_eq {e : ET} {env : Env} (h : FRel e env) : evalE e = evalO env := by
  funext x
  cases x with
  | tmp t => exact (h.get t).symm
  | _ => rfl
theorem ewant_eq {e : ET} {env : Env} (h : FRel e env) (g : Option (Nat × Bool)) : ewant e g = vwant env g := by
  cases g with
  | none => rfl
  | some p =>
    obtain ⟨d, w⟩ := p
    simp only [ewant, vwant, h.get]
    cases e.get d <;> rfl
theorem esetPs_rel : ∀ (ps : List Nat) (vs : List Value) {e : ET} {env : Env}, FRel e env → FRel (esetPs e ps vs) (setPs env ps vs)
  | [], vs, e, env, h => by cases vs <;> exact h
  | p :: ps, [], e, env, h => h
  | p :: ps, v :: vs, e, env, h => esetPs_rel ps vs (h.set p v)
theorem etL_get : ∀ (l : List Value) (i : Nat) (t : GT Value) (j : Nat), i + l.length ≤ 1000000 → (etL l i t).get undef j = if i ≤ j ∧ j < i + l.length then l.getD (j - i) undef else t.get undef j
  | [], i, t, j, _ => by rw [if_neg (by simp only [List.length_nil]; omega)]; rfl
  | v :: l, i, t, j, h => by
    have h : i + (l.length + 1) ≤ 1000000 := h
    show (etL l (i + 1) (t.set undef 32 i v)).get undef j = _
    rw [etL_get l (i + 1) _ j (by omega), GT.get_set undef 32 _ _ _ _ (by omega)]
    by_cases hji : j = i
    · subst hji
      rw [if_neg (by omega), if_pos rfl, if_pos (by simp)]; simp
    · by_cases hc : i + 1 ≤ j ∧ j < i + 1 + l.length
      · rw [if_pos hc, if_pos (by simp; omega), show j - i = j - (i + 1) + 1 by omega]; rfl
      · rw [if_neg hc, if_neg hji, if_neg (by simp; omega)]
theorem ET.of_rel {args : List Value} {nt : Nat} (h : (ET.of args nt).m ≤ 1000000) : FRel (ET.of args nt) (args ++ List.replicate (nt - args.length) undef) := by
  refine ⟨by simp [ET.of], h, fun i => ?_⟩
  have hm : (ET.of args nt).m = args.length + (nt - args.length) := rfl
  rw [hm] at h
  rcases Nat.lt_or_ge i (ET.of args nt).m with hi | hi
  · rw [ET.get_lt hi]
    show _ = (etL args 0 .nil).get undef i
    rw [etL_get _ _ _ _ (by omega), List.getD_eq_getElem?_getD, List.getElem?_append]
    rw [hm] at hi
    by_cases hl : i < args.length
    · rw [if_pos hl, if_pos (by omega)]
      simp [List.getD_eq_getElem?_getD]
    · rw [if_neg hl, if_neg (by omega), List.getElem?_replicate, if_pos (by omega)]; rfl
  · rw [ET.get_ge hi]
    rw [hm] at hi
    rw [List.getD_eq_getElem?_getD, List.getElem?_eq_none (by simp; omega)]; rfl
structure TabOk (P : Program) (T : Tab) : Prop where
  code : ∀ f vc rs nt, T f = some (.code vc rs nt) → Fun P f vc rs nt
  codeJ : ∀ f vc rs nt, T f = some (.codeJ vc rs nt) → Fun P f vc rs nt
  same : ∀ f, T f = some .same → ∀ (v : Value) (σ : Heap) (K : Value → Heap → Prop), K v σ → VCalled P f [v] σ K
section
variable {P : Program} {T : Tab} {ev : EvFn}
abbrev Recs := Nat → Env × Loop
def YOk (P : Program) (ys : Ys) (rs : Recs) (n : Nat) : Prop :=
  ∀ i c, ys.find i = some c → i < n ∧ FRel c.env (rs i).1 ∧ OkYield P i (roundY (vwp (semSpecs P) c.a (some i)) (vwp (semSpecs P) c.b (some i)) c.ps (rs i).1 (rs i).2 i)
theorem YOk.mono {ys : Ys} {rs rs' : Recs} {n n' : Nat} (h : YOk P ys rs n) (hn : n ≤ n') (hr : ∀ i, i < n → rs' i = rs i) : YOk P ys rs' n' := fun i c hc => by
  obtain ⟨h1, h2, h3⟩ := h i c hc
  rw [hr i h1]
  exact ⟨by omega, h2, h3⟩
def Cont {A : Type} (G : A → Prop) (rs : Recs) (h : CH) (k : Value → CH → A) (K : Value → Heap → Prop) : Prop :=
  ∀ v h' rs' σ', h.n ≤ h'.n → (∀ i, i < h.n → rs' i = rs i) → CSim rs' h' σ' → G (k v h') → K v σ'
def ContE {A : Type} (G : A → Prop) (rs : Recs) (h : CH) (m : Nat) (k : Exit → ET → CH → A) (Q : Exit → Env → Heap → Prop) : Prop :=
  ∀ e et' h' rs' σ' env', h.n ≤ h'.n → (∀ i, i < h.n → rs' i = rs i) → CSim rs' h' σ' → FRel et' env' → List.length env' = m → G (k e et' h') → Q e env' σ'
def ContN {A : Type} (G : A → Prop) (rs : Recs) (h : CH) (m : Nat) (k : ET → CH → A) (K : Env → Heap → Prop) : Prop :=
  ∀ et' h' rs' σ' env', h.n ≤ h'.n → (∀ i, i < h.n → rs' i = rs i) → CSim rs' h' σ' → FRel et' env' → List.length env' = m → G (k et' h') → K env' σ'
def Sd (P : Program) (ev : EvFn) : Prop := ∀ {A : Type} (R : AnsOps A) (G : A → Prop), Good R G → ∀ (ys : Ys) (c : VCode) (ro : Option Nat) (et : ET) (env : Env) (h : CH) (k : Exit → ET → CH → A) (rs : Recs) (σ : Heap) (Q : Exit → Env → Heap → Prop),
  YOk P ys rs h.n → CSim rs h σ → FRel et env → G (ev R ys c ro et h k) → ContE G rs h (List.length env) k Q → vwp (semSpecs P) c ro Q env σ
theorem eresult_sound {rs : Recs} {h : CH} {σ : Heap} (hs : CSim rs h σ) {et : ET} {env : Env} (hE : FRel et env) {r : VResult} {v : Value} (hr : eresult et h r = some v) : vresult env σ r = some v := by
  cases r with
  | tmp t => simp only [eresult] at hr; simp only [vresult, hE.get]; exact hr
  | cell a agg size =>
    simp only [eresult] at hr
    split at hr
    · rename_i p hp
      rw [← hE.get] at hp
      obtain ⟨_, σ', h1, _⟩ := eactF_sound (o := .load agg size (.tmp a)) (ev := evalO env) hs hp
      simp only [vresult, h1, Option.map_some]
      exact hr
    · cases hr
theorem eresultL_sound {rs : Recs} {h : CH} {σ : Heap} (hs : CSim rs h σ) {et : ET} {env : Env} (hE : FRel et env) : ∀ (l : List VResult) (vs : List Value), eresultL et h l = some vs → l.mapM (vresult env σ) = some vs
  | [], vs, hr => by simp [eresultL] at hr; subst hr; rfl
  | r :: l, vs, hr => by
    simp only [eresultL] at hr
    split at hr
    · cases hr
    · rename_i v hv
      split at hr
      · cases hr
      · rename_i ws hw
        obtain rfl := Option.some.inj hr
        rw [List.mapM_cons, eresult_sound hs hE hv]
        simp [eresultL_sound hs hE l ws hw]
theorem eresults_sound {rs : Recs} {h : CH} {σ : Heap} (hs : CSim rs h σ) {et : ET} {env : Env} (hE : FRel et env) {l : List VResult} {v : Value} (hr : eresults et h l = some v) : vresults env σ l = some v := by
  unfold eresults at hr
  split at hr
  · exact eresult_sound hs hE hr
  · rename_i hne
    split at hr
    · rename_i vs hvs
      unfold vresults
      split
      · rename_i r; exact absurd rfl (hne r)
      · rw [eresultL_sound hs hE _ _ hvs]; exact hr
    · cases hr
variable {A : Type} {R : AnsOps A} {G : A → Prop}
theorem eend_sound (hG : Good R G) {rl : List VResult} {k : Value → CH → A} {rs : Recs} {h : CH} {σ : Heap} {K : Value → Heap → Prop} {m : Nat} (hk : Cont G rs h k K) : ContE G rs h m (eend R.fail rl k) (EndK σ rl K) := by
  intro e et' h' rs' σ' env' hn hr hs' hE' _ hg
  have fin : G (match eresults et' h' rl with | some v => k v h' | none => R.fail) → obind (vresults env' σ' rl) fun v => ∃ v' σ'', DropTo σ v σ' v' σ'' ∧ K v' σ'' := by
    intro hg
    split at hg
    · rename_i v hv
      rw [eresults_sound hs' hE' hv]
      exact ⟨v, σ', .refl _ _ _, hk v h' rs' σ' hn hr hs' hg⟩
    · exact (hG.fail hg).elim
  cases e with
  | normal => exact fin hg
  | ret => exact fin hg
  | _ => exact (hG.fail hg).elim
noncomputable def CH.toHeap (rs : Recs) (h : CH) : Heap := ⟨fun i => (h.get i).map (EB.to (rs i)), h.n, fun i hi => by rw [CH.get_ge hi]; rfl⟩
theorem toHeap_sim {rs : Recs} {h : CH} (hr : h.n ≤ 1000000001) : CSim rs h (h.toHeap rs) := ⟨rfl, hr, fun _ => rfl⟩
theorem CSim.eq {rs : Recs} {h : CH} {σ : Heap} (hs : CSim rs h σ) : σ = h.toHeap rs := Heap.ext' (fun j => hs.get j) hs.n.symm
def JGood (x : Value × CH) (a : Option (Value × CH)) : Prop := ∃ y, a = some y ∧ y.1 = x.1 ∧ y.2.n = x.2.n ∧ ∀ i, y.2.get i = x.2.get i
theorem same_get {h h' : CH} (hs : h.same h' = true) : h.n = h'.n ∧ ∀ i, h.get i = h'.get i := by
  simp only [CH.same, Bool.and_eq_true, List.all_eq_true, List.mem_range, Nat.beq_eq] at hs
  refine ⟨hs.1, fun i => ?_⟩
  rcases Nat.lt_or_ge i h.n with hi | hi
  · have := hs.2 i hi
    split at this
    · rename_i h1 h2; rw [h1, h2]
    · rename_i a b h1 h2; rw [h1, h2, EB.beq_eq this]
    · cases this
  · rw [CH.get_ge hi, CH.get_ge (by rw [← hs.1]; exact hi)]
theorem joinGood (x : Value × CH) : Good joinOps (JGood x) := by
  refine ⟨fun ⟨y, h, _⟩ => (by cases h), fun a b h => ?_⟩
  obtain ⟨y, h1, h2, h3, h4⟩ := h
  cases a with
  | none => cases h1
  | some xa =>
    cases b with
    | none => cases h1
    | some xb =>
      simp only [joinOps] at h1
      split at h1
      · rename_i hc
        obtain rfl := Option.some.inj h1
        have e1 := vbeq_eq _ _ _ hc.1
        obtain ⟨e2, e3⟩ := same_get hc.2
        exact ⟨⟨xa, rfl, h2, h3, h4⟩, xb, rfl, by rw [← e1]; exact h2, by rw [← e2]; exact h3, fun i => by rw [← e3 i]; exact h4 i⟩
      · cases h1
theorem plainE_to {b : EB} {q : Env × Loop} (h : b.plainE = true) : (b.to q).plain = true ∧ ∀ q', b.to q' = b.to q := by
  cases b <;> first | exact ⟨h, fun _ => rfl⟩ | cases h
def gcP (n0 : Nat) (refs : List Nat) (i : Nat) : Nat := if i < n0 then i else refs.getD (i - n0) 0
def RExt (n0 : Nat) (a b : List Nat) : Prop := (∃ t, b = a ++ t ∧ ∀ x ∈ t, n0 ≤ x) ∧ (a.Nodup → b.Nodup)
theorem RExt.refl (n0 : Nat) (a : List Nat) : RExt n0 a a := ⟨⟨[], by simp, fun x hx => by cases hx⟩, id⟩
theorem RExt.trans {n0 : Nat} {a b c : List Nat} (h : RExt n0 a b) (k : RExt n0 b c) : RExt n0 a c := by
  obtain ⟨⟨t, rfl, ht⟩, h2⟩ := h
  obtain ⟨⟨u, rfl, hu⟩, k2⟩ := k
  exact ⟨⟨t ++ u, by simp, fun x hx => (List.mem_append.1 hx).elim (ht x) (hu x)⟩, fun h => k2 (h2 h)⟩
def Sub (a b : List Nat) : Prop := ∃ t, b = a ++ t
theorem Sub.trans {a b c : List Nat} (h : Sub a b) (k : Sub b c) : Sub a c := by
  obtain ⟨t, rfl⟩ := h; obtain ⟨u, rfl⟩ := k; exact ⟨t ++ u, by simp⟩
theorem RExt.sub {n0 : Nat} {a b : List Nat} (h : RExt n0 a b) : Sub a b := by obtain ⟨⟨t, h, _⟩, _⟩ := h; exact ⟨t, h⟩
theorem gcI_spec (n0 : Nat) (refs : List Nat) (i : Nat) : RExt n0 refs (gcI n0 refs i).2 ∧ ∀ (all : List Nat), Sub (gcI n0 refs i).2 all → (gcI n0 refs i).1 < n0 + all.length ∧ gcP n0 all (gcI n0 refs i).1 = i := by
  unfold gcI
  split
  · rename_i hi
    exact ⟨RExt.refl _ _, fun all _ => ⟨by simp only; omega, by simp [gcP, hi]⟩⟩
  · rename_i hi
    split
    · rename_i hc
      have hm : i ∈ refs := by simpa using hc
      have hlt := List.idxOf_lt_length_of_mem hm
      refine ⟨RExt.refl _ _, fun all ⟨t, ht⟩ => ?_⟩
      simp only at ht
      have hlt' : refs.idxOf i < all.length := by rw [ht, List.length_append]; omega
      refine ⟨by simp only; omega, ?_⟩
      simp only [gcP, if_neg (show ¬ n0 + refs.idxOf i < n0 by omega), show n0 + refs.idxOf i - n0 = refs.idxOf i by omega, List.getD_eq_getElem?_getD]
      rw [ht, List.getElem?_append_left hlt, List.getElem?_eq_getElem hlt]
      simp
    · rename_i hc
      have hm : i ∉ refs := by simpa using hc
      refine ⟨⟨⟨[i], rfl, fun x hx => by simp at hx; omega⟩, fun h1 => List.nodup_append.2 ⟨h1, by simp, fun a ha b hb => by simp at hb; subst hb; rintro rfl; exact hm ha⟩⟩, fun all ⟨t, ht⟩ => ?_⟩
      simp only at ht
      have hlt : refs.length < all.length := by rw [ht]; simp
      refine ⟨by simp only; omega, ?_⟩
      simp only [gcP, if_neg (show ¬ n0 + refs.length < n0 by omega), show n0 + refs.length - n0 = refs.length by omega]
      simp [ht, List.getD_eq_getElem?_getD]
def XSpec (n0 : Nat) (refs refs' : List Nat) (v' v : Value) : Prop := RExt n0 refs refs' ∧ ∀ (all : List Nat), Sub refs' all → Ren (n0 + all.length) (gcP n0 all) v' v
def LSpec (n0 : Nat) (refs refs' : List Nat) (v' v : List Value) : Prop := RExt n0 refs refs' ∧ ∀ (all : List Nat), Sub refs' all → LRen (n0 + all.length) (gcP n0 all) v' v
theorem gcLs_spec {n0 : Nat} {g : List Nat → Value → Option (Value × List Nat)} (hg : ∀ refs v p, g refs v = some p → XSpec n0 refs p.2 p.1 v) : ∀ (vs : List Value) (refs : List Nat) (p : List Value × List Nat), gcLs g vs refs = some p → LSpec n0 refs p.2 p.1 vs
  | [], refs, p, h => by
    obtain rfl := Option.some.inj h
    exact ⟨RExt.refl _ _, fun all _ => ⟨rfl, fun i a b ha => by simp at ha⟩⟩
  | v :: vs, refs, p, h => by
    simp only [gcLs] at h
    split at h
    · cases h
    · rename_i p1 h1
      split at h
      · cases h
      · rename_i p2 h2
        obtain rfl := Option.some.inj h
        obtain ⟨a1, a2⟩ := hg _ _ _ h1
        obtain ⟨b1, b2⟩ := gcLs_spec hg vs _ _ h2
        refine ⟨a1.trans b1, fun all hall => ?_⟩
        have c1 := a2 all (b1.sub.trans hall)
        have c2 := b2 all hall
        refine ⟨by simp [c2.1], fun i a b ha hb => ?_⟩
        cases i with
        | zero => simp at ha hb; subst ha; subst hb; exact c1
        | succ i => exact c2.2 i a b (by simpa using ha) (by simpa using hb)
theorem LRen.agg {n : Nat} {π : Nat → Nat} {vs' : List Value} {cs : Array Value} (h : LRen n π vs' cs.toList) : Ren n π (.agg vs'.toArray) (.agg cs) :=
  .agg _ _ (by simpa using h.1) fun i h1 h2 => h.2 i _ _ (by simp) (by simp)
theorem LRen.tuple {n : Nat} {π : Nat → Nat} {vs' : List Value} {cs : Array Value} (h : LRen n π vs' cs.toList) : Ren n π (.tuple vs'.toArray) (.tuple cs) :=
  .tuple _ _ (by simpa using h.1) fun i h1 h2 => h.2 i _ _ (by simp) (by simp)
theorem gcX_spec (n0 : Nat) : ∀ (f : Nat) (refs : List Nat) (v : Value) (p : Value × List Nat), gcX n0 f refs v = some p → XSpec n0 refs p.2 p.1 v := by
  intro f
  induction f with
  | zero => intro refs v p h; cases h
  | succ f ih =>
    intro refs v p h
    unfold gcX at h
    split at h
    · rename_i i o
      obtain rfl := Option.some.inj h
      obtain ⟨h1, h2⟩ := gcI_spec n0 refs i
      refine ⟨h1, fun all hall => ?_⟩
      obtain ⟨k1, k2⟩ := h2 all hall
      have := Ren.ptr (n := n0 + all.length) (π := gcP n0 all) (gcI n0 refs i).1 o k1
      rwa [k2] at this
    · rename_i i o l c
      obtain rfl := Option.some.inj h
      obtain ⟨h1, h2⟩ := gcI_spec n0 refs i
      refine ⟨h1, fun all hall => ?_⟩
      obtain ⟨k1, k2⟩ := h2 all hall
      have := Ren.sl (n := n0 + all.length) (π := gcP n0 all) (gcI n0 refs i).1 o l c k1
      rwa [k2] at this
    · rename_i i
      obtain rfl := Option.some.inj h
      obtain ⟨h1, h2⟩ := gcI_spec n0 refs i
      refine ⟨h1, fun all hall => ?_⟩
      obtain ⟨k1, k2⟩ := h2 all hall
      have := Ren.map (n := n0 + all.length) (π := gcP n0 all) (gcI n0 refs i).1 k1
      rwa [k2] at this
    · obtain rfl := Option.some.inj h
      exact ⟨RExt.refl _ _, fun all _ => .poison _⟩
    · split at h
      · rename_i q hq
        obtain rfl := Option.some.inj h
        obtain ⟨h1, h2⟩ := ih _ _ _ hq
        exact ⟨h1, fun all hall => .iface _ _ _ (h2 all hall)⟩
      · cases h
    · split at h
      · rename_i q hq
        obtain rfl := Option.some.inj h
        obtain ⟨h1, h2⟩ := gcLs_spec ih _ _ _ hq
        exact ⟨h1, fun all hall => (h2 all hall).agg⟩
      · cases h
    · split at h
      · rename_i q hq
        obtain rfl := Option.some.inj h
        obtain ⟨h1, h2⟩ := gcLs_spec ih _ _ _ hq
        exact ⟨h1, fun all hall => (h2 all hall).tuple⟩
      · cases h
    · split at h
      · rename_i q hq
        split at h
        · rename_i q2 hq2
          obtain rfl := Option.some.inj h
          obtain ⟨h1, h2⟩ := gcLs_spec ih _ _ _ hq
          obtain ⟨h3, h4⟩ := gcLs_spec ih _ _ _ hq2
          refine ⟨h1.trans h3, fun all hall => ?_⟩
          have c1 := h2 all (h3.sub.trans hall)
          have c2 := h4 all hall
          exact .func _ _ _ _ _ (by simpa using c1.1) (by simpa using c2.1) (fun i h1 h2 => c1.2 i _ _ (by simp) (by simp)) (fun i h1 h2 => c2.2 i _ _ (by simp) (by simp))
        · cases h
      · cases h
    · split at h
      · rename_i hp
        obtain rfl := Option.some.inj h
        exact ⟨RExt.refl _ _, fun all _ => .plain _ hp⟩
      · cases h
theorem gcEs_spec (n0 : Nat) : ∀ (es : List MEnt) (refs : List Nat) (p : List MEnt × List Nat), gcEs n0 es refs = some p → RExt n0 refs p.2 ∧ ∀ (all : List Nat), Sub p.2 all →
    p.1.length = es.length ∧ ∀ (k : Nat) (a b : MEnt), p.1[k]? = some a → es[k]? = some b → a.1 = b.1 ∧ a.2.2 = b.2.2 ∧ Ren (n0 + all.length) (gcP n0 all) a.2.1 b.2.1
  | [], refs, p, h => by
    obtain rfl := Option.some.inj h
    exact ⟨RExt.refl _ _, fun all _ => ⟨rfl, fun i a b ha => by simp at ha⟩⟩
  | e :: es, refs, p, h => by
    simp only [gcEs] at h
    split at h
    · cases h
    · rename_i p1 h1
      split at h
      · cases h
      · rename_i p2 h2
        obtain rfl := Option.some.inj h
        obtain ⟨a1, a2⟩ := gcX_spec n0 _ _ _ _ h1
        obtain ⟨b1, b2⟩ := gcEs_spec n0 es _ _ h2
        refine ⟨a1.trans b1, fun all hall => ?_⟩
        have c1 := a2 all (b1.sub.trans hall)
        obtain ⟨c2, c3⟩ := b2 all hall
        refine ⟨by simp [c2], fun i a b ha hb => ?_⟩
        cases i with
        | zero => simp at ha hb; subst ha; subst hb; exact ⟨rfl, rfl, c1⟩
        | succ i => exact c3 i a b (by simpa using ha) (by simpa using hb)
theorem gcB_spec {n0 : Nat} {refs : List Nat} {b : EB} {p : EB × List Nat} (h : gcB n0 refs b = some p) : RExt n0 refs p.2 ∧ ∀ (all : List Nat), Sub p.2 all → ∀ q q', BRen (n0 + all.length) (gcP n0 all) (p.1.to q') (b.to q) := by
  unfold gcB at h
  split at h
  · split at h
    · rename_i q hq
      obtain rfl := Option.some.inj h
      obtain ⟨h1, h2⟩ := gcLs_spec (gcX_spec n0 8) _ _ _ hq
      exact ⟨h1, fun all hall _ _ => ⟨rfl, rfl, rfl, h2 all hall⟩⟩
    · cases h
  · split at h
    · rename_i q hq
      obtain rfl := Option.some.inj h
      obtain ⟨h1, h2⟩ := gcEs_spec n0 _ _ _ hq
      exact ⟨h1, fun all hall _ _ => ⟨rfl, rfl, (h2 all hall).1, (h2 all hall).2⟩⟩
    · cases h
  · cases h
theorem gcRun_spec {h' : CH} {n0 : Nat} : ∀ (f k : Nat) (refs : List Nat) (acc : CH) (r : CH × List Nat), gcRun h' n0 f k refs acc = some r → acc.n = n0 + k → acc.n ≤ 1000000001 →
    RExt n0 refs r.2 ∧ r.1.n = n0 + r.2.length ∧ r.1.n ≤ 1000000001 ∧ (∀ i, i < acc.n → r.1.get i = acc.get i) ∧
    ∀ j, k ≤ j → j < r.2.length → ∃ b b', h'.get (r.2.getD j 0) = some b ∧ r.1.get (n0 + j) = some b' ∧ ∀ q q', BRen (n0 + r.2.length) (gcP n0 r.2) (b'.to q') (b.to q) := by
  intro f
  induction f with
  | zero => intro k refs acc r h; cases h
  | succ f ih =>
    intro k refs acc r h hn hs
    simp only [gcRun] at h
    split at h
    · split at h
      · rename_i hk
        obtain rfl := Option.some.inj h
        exact ⟨RExt.refl _ _, by rw [hn, hk], hs, fun _ _ => rfl, fun j h1 h2 => by simp only at h2; omega⟩
      · cases h
    · rename_i hk
      split at h
      · cases h
      · rename_i b hb
        split at h
        · cases h
        · rename_i p hp
          split at h
          · rename_i hroom
            have hroom : acc.n ≤ 1000000000 := Nat.le_of_ble_eq_true hroom
            obtain ⟨a1, a2⟩ := gcB_spec hp
            have hpn : (acc.push p.1).n = acc.n + 1 := rfl
            obtain ⟨b1, b2, b3, b4, b5⟩ := ih (k + 1) p.2 (acc.push p.1) r h (by rw [hpn]; omega) (by rw [hpn]; omega)
            refine ⟨a1.trans b1, b2, b3, fun i hi => ?_, fun j hj1 hj2 => ?_⟩
            · rw [b4 i (by rw [hpn]; omega), CH.get_push hs, if_neg (by omega)]
            · by_cases hjk : j = k
              · subst hjk
                have hkl : j < refs.length := by omega
                obtain ⟨t, ht⟩ := (a1.trans b1).sub
                have hg : r.2.getD j 0 = refs.getD j 0 := by
                  rw [ht, List.getD_eq_getElem?_getD, List.getD_eq_getElem?_getD, List.getElem?_append_left hkl]
                refine ⟨b, p.1, by rw [hg]; exact hb, ?_, a2 r.2 b1.sub⟩
                rw [← hn, b4 _ (by rw [hpn]; omega), CH.get_push hs, if_pos rfl]
              · exact b5 j (by omega) hj2
          · cases h
theorem gcDone_sound {rs rs' : Recs} {h h' : CH} {σ σ' : Heap} (hs : CSim rs h σ) (hs' : CSim rs' h' σ') (hr : ∀ i, i < h.n → rs' i = rs i) {v : Value} {y x : Value × CH} (hg : gcDone h h' v = some y) (h1 : y.1 = x.1) (h2 : y.2.n = x.2.n) (h3 : ∀ i, y.2.get i = x.2.get i) :
    DropTo σ v σ' x.1 (x.2.toHeap rs) := by
  unfold gcDone at hg
  split at hg
  · cases hg
  · rename_i p hp
    split at hg
    · cases hg
    · rename_i q hq
      obtain rfl := Option.some.inj hg
      simp only at h1 h2 h3
      obtain ⟨f1, f2⟩ := gcX_spec h.n 8 [] v p hp
      unfold gcHeap at hq
      split at hq
      · rename_i hkeep
        simp only [CH.keepOk, Bool.and_eq_true, List.all_eq_true, List.mem_range] at hkeep
        obtain ⟨hle, hkeep⟩ := hkeep
        have hle : h.n ≤ h'.n := Nat.le_of_ble_eq_true hle
        have hsm := hs.sm
        obtain ⟨g0, g1, g2, g3, g4⟩ := gcRun_spec _ 0 p.2 ⟨h'.t, h.n⟩ q hq rfl hsm
        have hall := f1.trans g0
        have hnd : q.2.Nodup := hall.2 List.nodup_nil
        have hge : ∀ x ∈ q.2, h.n ≤ x := by
          obtain ⟨⟨t, ht, hx⟩, _⟩ := hall
          simpa [ht] using hx
        have hold : ∀ i, i < h.n → q.1.get i = h'.get i := fun i hi => by
          rw [g3 i hi, CH.get_lt (h := ⟨h'.t, h.n⟩) hi, CH.get_lt (by omega)]
        have hxn : (x.2.toHeap rs).n = h.n + q.2.length := by show x.2.n = _; rw [← h2, g1]
        have hxg : ∀ i, (x.2.toHeap rs).get i = (q.1.get i).map (EB.to (rs i)) := fun i => by show (x.2.get i).map _ = _; rw [← h3 i]
        rw [← h1]
        refine DropTo.rename (gcP h.n q.2) (by rw [hxn, ← hs.n]; omega) (fun i hi => ?_) (fun i hi1 hi2 => ?_) (fun i j hi1 hi2 hj1 hj2 he => ?_) (by rw [hxn]; exact f2 q.2 g0.sub)
        · rw [← hs.n] at hi
          refine ⟨by simp [gcP, hi], by rw [hxg, hold i hi, hs'.get, hr i hi], ?_⟩
          have := hkeep i hi
          rw [hs'.get, hs.get]
          split at this
          · rename_i e1 e2; rw [e1, e2]; exact .inl rfl
          · rename_i a b e1 e2
            rw [e1, e2]
            rw [Bool.or_eq_true] at this
            rcases this with hb | hb
            · exact .inr ⟨_, rfl, (plainE_to hb).1⟩
            · rw [EB.beq_eq hb, hr i hi]; exact .inl rfl
          · cases this
        · rw [← hs.n] at hi1
          rw [hxn] at hi2
          obtain ⟨b, b', e1, e2, e3⟩ := g4 (i - h.n) (by omega) (by omega)
          have hpi : gcP h.n q.2 i = q.2.getD (i - h.n) 0 := by simp [gcP, Nat.not_lt.2 hi1]
          have hin : q.2.getD (i - h.n) 0 ∈ q.2 := by
            have : i - h.n < q.2.length := by omega
            simp [List.getD_eq_getElem?_getD, this]
          rw [show h.n + (i - h.n) = i by omega] at e2
          rw [hpi]
          refine ⟨by rw [← hs.n]; exact hge _ hin, b'.to (rs i), b.to (rs' (q.2.getD (i - h.n) 0)), by rw [hxg, e2]; rfl, by rw [hs'.get, e1]; rfl, by rw [hxn]; exact e3 _ _⟩
        · rw [← hs.n] at hi1 hj1
          rw [hxn] at hi2 hj2
          simp only [gcP, Nat.not_lt.2 hi1, Nat.not_lt.2 hj1, if_false] at he
          have h1' : i - h.n < q.2.length := by omega
          have h2' : j - h.n < q.2.length := by omega
          simp only [List.getD_eq_getElem?_getD, List.getElem?_eq_getElem h1', List.getElem?_eq_getElem h2', Option.getD_some] at he
          have := (List.getElem_inj (h₀ := h1') (h₁ := h2') hnd).1 he
          omega
      · cases hq
theorem ecall_sound (hm : P.follows .mixedOrders = true) (hT : TabOk P T) (hSd : Sd P ev) (hG : Good R G) {ys : Ys} {f : FuncId} {args : List Value} {h : CH} {k : Value → CH → A} {rs : Recs} {σ : Heap} {K : Value → Heap → Prop}
    (hY : YOk P ys rs h.n) (hs : CSim rs h σ) (he : G (ecall T ev R ys f args h k)) (hk : Cont G rs h k K) : VCalled P f args σ K := by
  unfold ecall at he
  split at he
  · rename_i vc rl nt hf
    have hF := hT.code f vc rl nt hf
    split at he
    · rename_i hb
      exact hF.calls hm okSem (hSd R G hG ys vc none _ _ h _ rs σ _ hY hs (ET.of_rel (Nat.le_of_ble_eq_true hb)) he (eend_sound hG hk))
    · exact (hG.fail he).elim
  · rename_i vc rl nt hf
    have hF := hT.codeJ f vc rl nt hf
    split at he
    · rename_i hb
      split at he
      · rename_i x hx
        split at he
        · rename_i hc
          have hroom : x.2.n ≤ 1000000000 := Nat.le_of_ble_eq_true hc.1
          have hK := hk x.1 x.2 rs _ (Nat.le_of_ble_eq_true hc.2) (fun _ _ => rfl) (toHeap_sim (by omega)) he
          refine hF.calls hm okSem (hSd joinOps (JGood x) (joinGood x) ys vc none _ _ h _ rs σ _ hY hs (ET.of_rel (Nat.le_of_ble_eq_true hb)) (show JGood x _ from ⟨x, hx, rfl, rfl, fun _ => rfl⟩) ?_)
          intro e et' h' rs' σ' env' hn hr hs' hE' _ hg
          have fin : JGood x (match eresults et' h' rl with | some v => gcDone h h' v | none => none) → obind (vresults env' σ' rl) fun v => ∃ v' σ'', DropTo σ v σ' v' σ'' ∧ K v' σ'' := by
            rintro ⟨y, hy, h1, h2, h3⟩
            split at hy
            · rename_i v hv
              rw [eresults_sound hs' hE' hv]
              exact ⟨_, _, gcDone_sound hs hs' hr hy h1 h2 h3, hK⟩
            · cases hy
          cases e with
          | normal => exact fin hg
          | ret => exact fin hg
          | _ => obtain ⟨y, hy, _⟩ := hg; cases hy
        · exact (hG.fail he).elim
      · exact (hG.fail he).elim
    · exact (hG.fail he).elim
  · rename_i hf
    split at he
    · rename_i v
      exact hT.same f hf v σ K (hk v h rs σ (Nat.le_refl _) (fun _ _ => rfl) hs he)
    · exact (hG.fail he).elim
  · exact (hG.fail he).elim
theorem ecallTo_sound (hm : P.follows .mixedOrders = true) (hSd : Sd P ev) (hG : Good R G) {ys : Ys} {f : FuncId} {vc : VCode} {rl : List VResult} {nt : Nat} (hf : T f = some (.code vc rl nt)) (hF : Fun P f vc rl nt) {args : List Value} {h : CH} {k : Value → CH → A} {rs : Recs} {σ : Heap} {K : Value → Heap → Prop}
    (hY : YOk P ys rs h.n) (hs : CSim rs h σ) (he : G (ecall T ev R ys f args h k)) (hk : Cont G rs h k K) : VCallsTo P f args σ K := by
  unfold ecall at he
  rw [hf] at he
  simp only at he
  split at he
  · rename_i hb
    exact hF.callsTo hm okSem (hSd R G hG ys vc none _ _ h _ rs σ _ hY hs (ET.of_rel (Nat.le_of_ble_eq_true hb)) he (eend_sound hG hk))
  · exact (hG.fail he).elim
theorem eyield_sound (hSd : Sd P ev) (hG : Good R G) {ys : Ys} {i : Nat} {args : List Value} {h : CH} {k : Value → CH → A} {rs : Recs} {σ : Heap} {K : Value → Heap → Prop}
    (hY : YOk P ys rs h.n) (hs : CSim rs h σ) (he : G (eyield ev R ys i args h k)) (hk : Cont G rs h k K) : VYields P i args σ K := by
  unfold eyield at he
  split at he
  · rename_i c hc
    obtain ⟨hin, henv, hok⟩ := hY i c hc
    split at he
    · rename_i hg
      split at he
      · rename_i hlen
        refine hok args σ K ⟨hs.lp hg, hlen, ?_⟩
        refine hSd R G hG ys c.a (some i) _ _ h _ rs σ _ hY hs (esetPs_rel c.ps args henv) he ?_
        intro e et1 h1 rs1 σ1 env1 hn1 hr1 hs1 hE1 _ hg1
        cases e with
        | normal =>
          simp only [eround] at hg1
          split at hg1
          · rename_i hgi
            have e1 : rs1 i = rs i := hr1 i hin
            have hlp := hs1.lp hgi
            rw [e1] at hlp
            refine ⟨hlp, ?_⟩
            have hi1 := hs1.lt hgi
            refine hSd R G hG ys c.b (some i) et1 env1 _ _ rs1 _ _ (hY.mono (n' := (h1.upd i (.lp .busy none)).n) hn1 hr1) (hs1.upd hi1 (b := .lp .busy none) (by rw [EB.to, e1])) hE1 hg1 ?_
            intro e2 et2 h2 rs2 σ2 env2 hn2 hr2 hs2 hE2 _ hg2
            have hn2' : h1.n ≤ h2.n := hn2
            have e2' : rs2 i = rs i := (hr2 i hi1).trans e1
            unfold eroundK at hg2
            split at hg2
            · rename_i hgi2
              have hi2 := hs2.lt hgi2
              have hlp2 := hs2.lp hgi2
              rw [e2'] at hlp2
              refine ⟨hlp2, ?_⟩
              have agree : ∀ j, j < h.n → rs2 j = rs j := fun j hj => (hr2 j (Nat.lt_of_lt_of_le hj hn1)).trans (hr1 j hj)
              cases e2 with
              | normal => exact hk _ (h2.upd i (.lp .ready none)) rs2 _ (Nat.le_trans hn1 hn2') agree (hs2.upd hi2 (b := .lp .ready none) (by simp only [EB.to, e2'])) hg2
              | ret => exact hk _ (h2.upd i (.lp .done (some .ret))) rs2 _ (Nat.le_trans hn1 hn2') agree (hs2.upd hi2 (b := .lp .done (some .ret)) (by simp only [EB.to, e2'])) hg2
              | exit id => exact hk _ (h2.upd i (.lp .done (some (.exit id)))) rs2 _ (Nat.le_trans hn1 hn2') agree (hs2.upd hi2 (b := .lp .done (some (.exit id))) (by simp only [EB.to, e2'])) hg2
              | _ => exact (hG.fail hg2).elim
            · exact (hG.fail hg2).elim
          · exact (hG.fail hg1).elim
        | _ => exact (hG.fail hg1).elim
      · exact (hG.fail he).elim
    · exact (hG.fail he).elim
  · exact (hG.fail he).elim
theorem enextC_sound (hG : Good R G) {i m since clock : Nat} {seen : List Nat} {h : CH} {k : Value → CH → A} : ∀ (es : List MEnt),
    (∀ e ∈ es, seen.contains e.2.2 = true) ∧ enextC R i m since clock seen h k es = none ∨
    ∃ a, enextC R i m since clock seen h k es = some a ∧ (G a → ∀ e ∈ es, seen.contains e.2.2 = false → G (k (.tuple #[.bool true, e.1, e.2.1]) (h.upd i (.iter m since (seen ++ [e.2.2]) clock))))
  | [] => .inl ⟨fun _ h => (by cases h), rfl⟩
  | e :: es => by
    have ih := enextC_sound hG (i := i) (m := m) (since := since) (clock := clock) (seen := seen) (h := h) (k := k) es
    by_cases hc : seen.contains e.2.2 = true
    · have he : enextC R i m since clock seen h k (e :: es) = enextC R i m since clock seen h k es := by rw [enextC, if_pos hc]
      rw [he]
      rcases ih with ⟨h1, h2⟩ | ⟨a, h1, h2⟩
      · exact .inl ⟨fun x hx => by rcases List.mem_cons.1 hx with rfl | hx; exact hc; exact h1 x hx, h2⟩
      · refine .inr ⟨a, h1, fun hga x hx hxs => ?_⟩
        rcases List.mem_cons.1 hx with rfl | hx
        · rw [hc] at hxs; cases hxs
        · exact h2 hga x hx hxs
    · rcases ih with ⟨h1, h2⟩ | ⟨a, h1, h2⟩
      · refine .inr ⟨k (.tuple #[.bool true, e.1, e.2.1]) (h.upd i (.iter m since (seen ++ [e.2.2]) clock)), by rw [enextC, if_neg hc, h2], fun hga x hx hxs => ?_⟩
        rcases List.mem_cons.1 hx with rfl | hx
        · exact hga
        · rw [h1 x hx] at hxs; cases hxs
      · refine .inr ⟨R.both (k (.tuple #[.bool true, e.1, e.2.1]) (h.upd i (.iter m since (seen ++ [e.2.2]) clock))) a, by rw [enextC, if_neg hc, h1], fun hga x hx hxs => ?_⟩
        obtain ⟨g1, g2⟩ := hG.both _ _ hga
        rcases List.mem_cons.1 hx with rfl | hx
        · exact g1
        · exact h2 g2 x hx hxs
theorem enext_sound (hG : Good R G) {x : Value} {h : CH} {k : Value → CH → A} {rs : Recs} {σ : Heap} {K : Value → Heap → Prop} (hs : CSim rs h σ) (he : G (enext R x h k)) (hk : Cont G rs h k K) : vnext x σ K := by
  unfold enext at he
  unfold vnext
  split at he
  · rename_i i
    split at he
    · rename_i m since seen last hg
      have hi := hs.lt hg
      simp only [hs.iter hg]
      split at he
      · rename_i es clock wr hma
        obtain ⟨k1, _⟩ := hs.mapAt hma
        simp only [k1]
        split at he
        · rename_i hc
          refine ⟨hc.1, hc.2, ?_⟩
          rcases enextC_sound hG (i := i) (m := m) (since := since) (clock := clock) (seen := seen) (h := h) (k := k) es with ⟨h1, h2⟩ | ⟨a, h1, h2⟩
          · rw [h2] at he
            simp only at he
            split at he
            · exact ⟨fun _ => hk _ _ rs σ (Nat.le_refl _) (fun _ _ => rfl) hs he, fun e hee hes => by rw [h1 e hee] at hes; cases hes⟩
            · exact (hG.fail he).elim
          · rw [h1] at he
            simp only at he
            have key : G a → ∀ e ∈ es, seen.contains e.2.2 = false → K (.tuple #[.bool true, e.1, e.2.1]) (σ.upd i (.obj (.iter m since (seen ++ [e.2.2]) clock) true)) := fun hga e hee hes =>
              hk _ (h.upd i (.iter m since (seen ++ [e.2.2]) clock)) rs _ (Nat.le_refl _) (fun _ _ => rfl) (hs.upd hi rfl) (h2 hga e hee hes)
            split at he
            · obtain ⟨g1, g2⟩ := hG.both _ _ he
              exact ⟨fun _ => hk _ _ rs σ (Nat.le_refl _) (fun _ _ => rfl) hs g1, key g2⟩
            · rename_i hn
              exact ⟨fun hh => absurd hh hn, key he⟩
        · exact (hG.fail he).elim
      · exact (hG.fail he).elim
    · exact (hG.fail he).elim
  · exact (hG.fail he).elim
theorem evop_sound (hm : P.follows .mixedOrders = true) (hT : TabOk P T) (hSd : Sd P ev) (hG : Good R G) {ys : Ys} {o : VOp} {et : ET} {env : Env} (hE : FRel et env) {h : CH} {k : Value → CH → A} {rs : Recs} {σ : Heap} {K : Value → Heap → Prop}
    (hY : YOk P ys rs h.n) (hs : CSim rs h σ) (he : G (evop T ev R ys o et h k)) (hk : Cont G rs h k K) : vop (semSpecs P) o env σ K := by
  have hev := evalE_eq hE
  have other : ∀ o' : VOp, G (eother R (eactF o' (evalE et) h) k) → obind (vact o' (evalO env) σ) fun p => K p.1 p.2 := by
    intro o' hg
    rw [hev] at hg
    unfold eother at hg
    split at hg
    · rename_i p hp
      obtain ⟨h1, σ', h2, h3⟩ := eactF_sound hs hp
      rw [h2]
      exact hk _ _ rs σ' h1 (fun _ _ => rfl) h3 hg
    · exact (hG.fail hg).elim
  cases o
  case callF f args =>
    simp only [evop, hev] at he
    exact ecall_sound hm hT hSd hG hY hs he hk
  case callV f args =>
    simp only [evop, hev] at he
    simp only [vop]
    unfold ecallV at he
    split at he
    · rename_i g first cap hg
      simp only [hg]
      exact ecall_sound hm hT hSd hG hY hs he hk
    · rename_i i first cap hg
      simp only [hg]
      exact eyield_sound hSd hG hY hs he hk
    · exact (hG.fail he).elim
  case ext x =>
    cases x
    case nextMap x =>
      simp only [evop, hev] at he
      exact enext_sound hG hs he hk
    case delete a b c => exact other (.ext (.delete a b c)) he
    all_goals exact other _ he
  case move a => exact other (.move a) he
  case makeFunc a b c => exact other (.makeFunc a b c) he
  case bad => exact other .bad he
  all_goals exact other _ he
theorem evops_sound (hm : P.follows .mixedOrders = true) (hT : TabOk P T) (hSd : Sd P ev) (hG : Good R G) {ys : Ys} {k : ET → CH → A} {K : Env → Heap → Prop} : ∀ (ops : List VOper) (et : ET) (env : Env) (h : CH) (rs : Recs) (σ : Heap),
    YOk P ys rs h.n → CSim rs h σ → FRel et env → G (evops T ev R ys ops et h k) → ContN G rs h (List.length env) k K → vops (semSpecs P) ops env σ K := by
  intro ops
  induction ops with
  | nil => intro et env h rs σ hY hs hE he hk; exact hk et h rs σ env (Nat.le_refl _) (fun _ _ => rfl) hs hE rfl he
  | cons o rest ih =>
    intro et env h rs σ hY hs hE he hk
    have he : G (match ewant et o.guard with
      | none => R.fail
      | some true => evop T ev R ys o.op et h fun v h' => evops T ev R ys rest (et.put o.dst v) h' k
      | some false => evops T ev R ys rest (et.put o.dst undef) h k) := he
    rw [ewant_eq hE] at he
    simp only [vops]
    split at he
    · exact (hG.fail he).elim
    · rename_i hw
      rw [hw]
      refine ⟨fun _ => ?_, fun hh => by cases hh⟩
      refine evop_sound hm hT hSd hG hE hY hs he ?_
      intro v h' rs' σ' hn hr hs' hg
      refine ih _ _ h' rs' σ' (hY.mono hn hr) hs' (hE.put _ _) hg ?_
      intro et2 h2 rs2 σ2 env2 hn2 hr2 hs2 hE2 hl hg2
      exact hk et2 h2 rs2 σ2 env2 (Nat.le_trans hn hn2) (fun i hi => (hr2 i (by omega)).trans (hr i hi)) hs2 hE2 (by rw [hl, putE_length]) hg2
    · rename_i hw
      rw [hw]
      refine ⟨fun hh => (by cases hh), fun _ => ?_⟩
      refine ih _ _ h rs σ hY hs (hE.put _ _) he ?_
      intro et2 h2 rs2 σ2 env2 hn2 hr2 hs2 hE2 hl hg2
      exact hk et2 h2 rs2 σ2 env2 hn2 hr2 hs2 hE2 (by rw [hl, putE_length]) hg2
def CSims (rs : Recs) (n : Nat) : List CH → List Heap → Prop
  | [], [] => True
  | h :: hs, σ :: σs => (CSim rs h σ ∧ h.n ≤ n) ∧ CSims rs n hs σs
  | _, _ => False
theorem CSims.mono {rs rs' : Recs} {n n' : Nat} (hn : n ≤ n') (hr : ∀ i, i < n → rs' i = rs i) : ∀ {hs : List CH} {σs : List Heap}, CSims rs n hs σs → CSims rs' n' hs σs
  | [], [], _ => trivial
  | h :: hs, σ :: σs, ⟨⟨h1, h2⟩, h3⟩ => ⟨⟨h1.rs fun i hi => hr i (by omega), by omega⟩, CSims.mono hn hr h3⟩
  | [], _ :: _, h => h.elim
  | _ :: _, [], h => h.elim
theorem CSims.snoc {rs : Recs} {n : Nat} {h : CH} {σ : Heap} (hs : CSim rs h σ) (hn : h.n ≤ n) : ∀ {hl : List CH} {σl : List Heap}, CSims rs n hl σl → CSims rs n (hl ++ [h]) (σl ++ [σ])
  | [], [], _ => ⟨⟨hs, hn⟩, trivial⟩
  | _ :: _, _ :: _, ⟨h1, h2⟩ => ⟨h1, CSims.snoc hs hn h2⟩
  | [], _ :: _, h => h.elim
  | _ :: _, [], h => h.elim
theorem CSims.get {rs : Recs} {n : Nat} {h : CH} {σ : Heap} (hs : CSim rs h σ) : ∀ {hl : List CH} {σl : List Heap} (j : Nat), CSims rs n hl σl → CSim rs (hl.getD j h) (σl.getD j σ)
  | [], [], _, _ => by simpa using hs
  | a :: l, b :: m, 0, ⟨h1, _⟩ => by simpa using h1.1
  | a :: l, b :: m, j + 1, ⟨_, h2⟩ => by simpa using CSims.get hs j h2
  | [], _ :: _, _, h => h.elim
  | _ :: _, [], _, h => h.elim
theorem ereads_sound {rs : Recs} {h : CH} {σ : Heap} (hs : CSim rs h σ) {op : VOp} {ev : Operand → Value} {v : Value} (hr : ereads op ev v h = true) : vreads op ev v σ := by
  unfold ereads at hr
  split at hr
  · rename_i q hq
    obtain ⟨_, σ', h2, _⟩ := eactF_sound hs hq
    unfold vreads
    rw [h2]
    exact vbeq_eq _ _ _ hr
  · cases hr
def PSims : List (Nat × (CH → Bool)) → List (Nat × (Heap → Prop)) → Prop
  | [], [] => True
  | c :: l, d :: m => (c.1 = d.1 ∧ ∀ rs h σ, CSim rs h σ → c.2 h = true → d.2 σ) ∧ PSims l m
  | _, _ => False
theorem epend_sound {rs : Recs} {h : CH} {σ : Heap} (hs : CSim rs h σ) {r : Nat} : ∀ {l : List (Nat × (CH → Bool))} {m : List (Nat × (Heap → Prop))}, PSims l m → epend r h l = true → vpend r σ m
  | [], [], _, _ => trivial
  | c :: l, d :: m, ⟨⟨h1, h2⟩, h3⟩, he => by
    simp only [epend, Bool.and_eq_true, Bool.or_eq_true, Bool.not_eq_true'] at he
    refine ⟨fun hr => h2 rs h σ hs ?_, epend_sound hs h3 he.2⟩
    rcases he.1 with h | h
    · rw [h1, Nat.ble_eq_true_of_le hr] at h; cases h
    · exact h
  | [], _ :: _, h, _ => h.elim
  | _ :: _, [], h, _ => h.elim
theorem CSims.mem {rs : Recs} {n : Nat} : ∀ {hl : List CH} {σl : List Heap}, CSims rs n hl σl → ∀ (f : CH → Bool) (Q : Heap → Prop), (∀ rs h σ, CSim rs h σ → f h = true → Q σ) → ∀ j, (hl.drop j).all f = true → ∀ τ ∈ σl.drop j, Q τ
  | [], [], _, _, _, _, _, _, τ, hτ => by simp at hτ
  | h :: hl, σ :: σl, ⟨h1, h2⟩, f, Q, hQ, 0, ha, τ, hτ => by
    simp only [List.drop_zero, List.all_cons, Bool.and_eq_true, List.mem_cons] at ha hτ
    rcases hτ with rfl | hτ
    · exact hQ rs h τ h1.1 ha.1
    · exact CSims.mem h2 f Q hQ 0 (by simpa using ha.2) τ (by simpa using hτ)
  | h :: hl, σ :: σl, ⟨h1, h2⟩, f, Q, hQ, j + 1, ha, τ, hτ => CSims.mem h2 f Q hQ j (by simpa using ha) τ (by simpa using hτ)
  | [], _ :: _, h, _, _, _, _, _, _, _ => h.elim
  | _ :: _, [], h, _, _, _, _, _, _, _ => h.elim
theorem CSims.length {rs : Recs} {n : Nat} : ∀ {hl : List CH} {σl : List Heap}, CSims rs n hl σl → hl.length = σl.length
  | [], [], _ => rfl
  | _ :: _, _ :: _, ⟨_, h⟩ => by simp [CSims.length h]
  | [], _ :: _, h => h.elim
  | _ :: _, [], h => h.elim
theorem evopsD_sound (hm : P.follows .mixedOrders = true) (hT : TabOk P T) (hSd : Sd P ev) (hG : Good R G) {ys : Ys} {k : ET → CH → A} {K : Env → Heap → Prop} : ∀ (ops : List DOper) (et : ET) (env : Env) (hl : List CH) (h : CH) (pe : List (Nat × (CH → Bool))) (rs : Recs) (σl : List Heap) (σ : Heap) (pv : List (Nat × (Heap → Prop))),
    YOk P ys rs h.n → CSim rs h σ → FRel et env → CSims rs h.n hl σl → PSims pe pv → G (evopsD T ev R ys ops et hl h pe k) → ContN G rs h (List.length env) k K → vopsD (semSpecs P) ops env σl σ pv K := by
  intro ops
  induction ops with
  | nil => intro et env hl h pe rs σl σ pv hY hs hE hss hp he hk; exact hk et h rs σ env (Nat.le_refl _) (fun _ _ => rfl) hs hE rfl he
  | cons o rest ih =>
    intro et env hl h pe rs σl σ pv hY hs hE hss hps he hk
    have hev := evalE_eq hE
    simp only [evopsD, ewant_eq hE, hev] at he
    simp only [vopsD]
    have hlen := hss.length
    split at he
    · exact (hG.fail he).elim
    · rename_i hw
      rw [hw]
      refine ⟨fun _ => ?_, fun hh => by cases hh⟩
      split at he
      · rename_i hk2
        rw [if_pos hk2]
        split at he
        · rename_i p hp
          split at he
          · rename_i hchk
            obtain ⟨hnew, hpe⟩ := hchk
            simp only [CH.newOk, Bool.and_eq_true, List.all_eq_true] at hnew
            obtain ⟨n1, n2, n3⟩ := hnew
            have n1 : h.n ≤ p.2.n := Nat.le_of_ble_eq_true n1
            have n2 : p.2.n ≤ 1000000000 := Nat.le_of_ble_eq_true n2
            have hsim : CSim rs p.2 (p.2.toHeap rs) := toHeap_sim (by omega)
            refine ⟨p.1, p.2.toHeap rs, ?_, ?_, ?_⟩
            · refine evop_sound hm hT hSd (oneGood p) hE hY hs hp ?_
              intro v h' rs' σ' hn hr hs' hg
              have hg : (v, h') = p := Option.some.inj hg
              subst hg
              refine ⟨rfl, ?_⟩
              have : CSim rs h' σ' := by
                refine ⟨hs'.n, hs'.sm, fun i => ?_⟩
                rw [hs'.get]
                cases hgi : h'.get i with
                | none => rfl
                | some b =>
                  rcases Nat.lt_or_ge i h.n with hi | hi
                  · rw [hr i hi]
                  · have hin := hs'.lt hgi
                    have := n3 i (List.mem_range'_1.2 ⟨hi, by simp at n1 ⊢; omega⟩)
                    simp only [hgi] at this
                    cases b <;> first | rfl | cases this
              exact this.eq
            · rw [← hlen]; exact epend_sound hsim hps hpe
            · refine ih _ _ _ p.2 pe rs _ _ pv (hY.mono n1 (fun _ _ => rfl)) hsim (hE.put _ _) ((hss.mono n1 (fun _ _ => rfl)).snoc hsim (Nat.le_refl _)) hps he ?_
              intro et2 h2 rs2 σ2 env2 hn2 hr2 hs2 hE2 hl2 hg2
              exact hk et2 h2 rs2 σ2 env2 (Nat.le_trans n1 hn2) (fun i hi => hr2 i (by omega)) hs2 hE2 (by rw [hl2, putE_length]) hg2
          · exact (hG.fail he).elim
        · exact (hG.fail he).elim
      · rename_i hk2
        rw [if_neg hk2]
        have done : ∀ (u : Value) (pe' : List (Nat × (CH → Bool))) (pv' : List (Nat × (Heap → Prop))), PSims pe' pv' → G (evopsD T ev R ys rest (et.put o.dst u) hl h pe' k) → vopsD (semSpecs P) rest (putE env o.dst u) σl σ pv' K := by
          intro u pe' pv' hp' hg
          refine ih _ _ hl h pe' rs σl σ pv' hY hs (hE.put _ _) hss hp' hg ?_
          intro et2 h2 rs2 σ2 env2 hn2 hr2 hs2 hE2 hl2 hg2
          exact hk et2 h2 rs2 σ2 env2 hn2 hr2 hs2 hE2 (by rw [hl2, putE_length]) hg2
        split at he
        · rename_i hk1
          rw [if_pos hk1]
          split at he
          · rename_i p hp
            split at he
            · rename_i hall
              obtain ⟨_, σ', h2, _⟩ := eactF_sound hs hp
              rw [h2]
              refine ⟨hss.mem _ _ (fun rs h σ hc hf => ereads_sound hc hf) _ hall, ?_⟩
              refine done _ _ _ ?_ he
              rw [← hlen]
              split
              · exact ⟨⟨rfl, fun rs h σ hc hf => ereads_sound hc hf⟩, hps⟩
              · exact hps
            · exact (hG.fail he).elim
          · exact (hG.fail he).elim
        · rename_i hk1
          rw [if_neg hk1]
          split at he
          · rename_i p hp
            obtain ⟨_, σ', h2, _⟩ := eactF_sound hs hp
            rw [h2]
            exact done _ _ _ hps he
          · exact (hG.fail he).elim
    · rename_i hw
      rw [hw]
      refine ⟨fun hh => (by cases hh), fun _ => ?_⟩
      split at he
      · rename_i hk2
        rw [if_pos hk2]
        split at he
        · rename_i hpe
          refine ⟨by rw [← hlen]; exact epend_sound hs hps hpe, ?_⟩
          refine ih _ _ _ h pe rs _ σ pv hY hs (hE.put _ _) (hss.snoc hs (Nat.le_refl _)) hps he ?_
          intro et2 h2 rs2 σ2 env2 hn2 hr2 hs2 hE2 hl2 hg2
          exact hk et2 h2 rs2 σ2 env2 hn2 hr2 hs2 hE2 (by rw [hl2, putE_length]) hg2
        · exact (hG.fail he).elim
      · rename_i hk2
        rw [if_neg hk2]
        refine ih _ _ _ h pe rs _ σ pv hY hs (hE.put _ _) hss hps he ?_
        intro et2 h2 rs2 σ2 env2 hn2 hr2 hs2 hE2 hl2 hg2
        exact hk et2 h2 rs2 σ2 env2 hn2 hr2 hs2 hE2 (by rw [hl2, putE_length]) hg2
theorem ET.list_eq {e : ET} {env : Env} (h : FRel e env) : e.list = env := by
  apply List.ext_getElem?
  intro i
  unfold ET.list
  rw [List.getElem?_map]
  rcases Nat.lt_or_ge i e.m with hi | hi
  · rw [List.getElem?_range hi]
    have := h.get i
    rw [h.m] at hi
    rw [List.getD_eq_getElem?_getD, List.getElem?_eq_getElem hi] at this
    rw [List.getElem?_eq_getElem hi, Option.map_some, ← this]; rfl
  · rw [List.getElem?_eq_none (by simpa using hi), List.getElem?_eq_none (by rw [← h.m]; exact hi)]; rfl
theorem tuple_rel_inv {ρ : Plc} {n : Nat} {vs : Array Value} {cs : List Value} (h : VRel ρ n (.tuple vs) (.tuple cs.toArray)) : LRel ρ n vs.toList cs := by
  obtain ⟨ds, he, hl⟩ := h.tuple_inv
  have : cs.toArray = ds := by injection he
  subst this
  simpa using hl
theorem evalts_sound (hm : P.follows .mixedOrders = true) (hT : TabOk P T) (hSd : Sd P ev) {ys : Ys} {x : Value × CH} {vs : Array Value} (hxv : x.1 = .tuple vs) {K : Env → Heap → Prop} {et : ET} {env : Env} {h : CH} {rs : Recs} {σ : Heap} (hY : YOk P ys rs h.n) (hs : CSim rs h σ) (hE : FRel et env)
    (hk : K vs.toList (x.2.toHeap rs)) : ∀ (alts : List (List DOper)), JGood x (evalts T ev ys et h alts) → ∀ ops ∈ alts, vopsD (semSpecs P) ops env [σ] σ [] fun env1 σ1 => ∃ env2 σ2, DropE σ env1 σ1 env2 σ2 ∧ K env2 σ2 := by
  have one : ∀ a : List DOper, JGood x (evalt T ev ys et h a) → vopsD (semSpecs P) a env [σ] σ [] fun env1 σ1 => ∃ env2 σ2, DropE σ env1 σ1 env2 σ2 ∧ K env2 σ2 := by
    intro a ha
    refine evopsD_sound hm hT hSd (joinGood x) a et env [h] h [] rs [σ] σ [] hY hs hE ⟨⟨hs, Nat.le_refl _⟩, trivial⟩ trivial ha ?_
    intro et' h' rs' σ' env' hn hr hs' hE' hl hg
    obtain ⟨y, hy, h1, h2, h3⟩ := hg
    unfold gcEnv at hy
    have hd := gcDone_sound hs hs' hr hy h1 h2 h3
    rw [ET.list_eq hE', hxv] at hd
    refine ⟨vs.toList, x.2.toHeap rs, ?_, hk⟩
    intro ρ0 w0 ρ w cs hH0 hE0 hH hL
    obtain ⟨ρ', d1, d2, d3⟩ := hd ρ0 w0 ρ w (.tuple cs.toArray) hH0 hE0 hH (VRel.tuple_of hL)
    exact ⟨ρ', tuple_rel_inv d1, d2, d3⟩
  intro alts
  induction alts with
  | nil => rintro ⟨y, hy, _⟩; cases hy
  | cons a l ih =>
    intro he ops ho
    cases l with
    | nil =>
      obtain rfl := List.mem_singleton.1 ho
      exact one _ he
    | cons b r =>
      obtain ⟨g1, g2⟩ := (joinGood x).both _ _ he
      rcases List.mem_cons.1 ho with rfl | ho
      · exact one _ g1
      · exact ih g2 ops ho
theorem evsegs_sound (hm : P.follows .mixedOrders = true) (hT : TabOk P T) (hSd : Sd P ev) (hG : Good R G) {ys : Ys} {k : ET → CH → A} {K : Env → Heap → Prop} : ∀ (segs : List DSeg) (et : ET) (env : Env) (h : CH) (rs : Recs) (σ : Heap),
    YOk P ys rs h.n → CSim rs h σ → FRel et env → G (evsegs T ev R ys segs et h k) → ContN G rs h (List.length env) k K → vsegs (semSpecs P) segs env σ K := by
  intro segs
  induction segs with
  | nil => intro et env h rs σ hY hs hE he hk; exact hk et h rs σ env (Nat.le_refl _) (fun _ _ => rfl) hs hE rfl he
  | cons x rest ih =>
    intro et env h rs σ hY hs hE he hk
    have next : ContN G rs h (List.length env) (fun et h => evsegs T ev R ys rest et h k) (fun env σ => vsegs (semSpecs P) rest env σ K) := by
      intro et1 h1 rs1 σ1 env1 hn1 hr1 hs1 hE1 hl1 hg1
      refine ih et1 env1 h1 rs1 σ1 (hY.mono hn1 hr1) hs1 hE1 hg1 ?_
      intro et2 h2 rs2 σ2 env2 hn2 hr2 hs2 hE2 hl2 hg2
      exact hk et2 h2 rs2 σ2 env2 (Nat.le_trans hn1 hn2) (fun i hi => (hr2 i (by omega)).trans (hr1 i hi)) hs2 hE2 (hl2.trans hl1) hg2
    cases x with
    | one o => exact evops_sound hm hT hSd hG [o] et env h rs σ hY hs hE he next
    | alts l =>
      have many : G (match evalts T ev ys et h l with
          | some x => (match x.1 with
            | .tuple vs => if x.2.room = true ∧ Nat.ble h.n x.2.n = true ∧ vs.toList.length = et.m then evsegs T ev R ys rest (ET.of vs.toList 0) x.2 k else R.fail
            | _ => R.fail)
          | none => R.fail) → vsegs (semSpecs P) (.alts l :: rest) env σ K := by
        intro he
        split at he
        · rename_i x hx
          split at he
          · rename_i vs hxv
            split at he
            · rename_i hc
              obtain ⟨c1, c2, c3⟩ := hc
              have hroom : x.2.n ≤ 1000000000 := Nat.le_of_ble_eq_true c1
              have hof : FRel (ET.of vs.toList 0) vs.toList := by
                have := ET.of_rel (args := vs.toList) (nt := 0) (by show vs.toList.length + (0 - vs.toList.length) ≤ _; have := hE.sm; omega)
                simpa using this
              exact evalts_sound hm hT hSd hxv hY hs hE (next _ x.2 rs _ _ (Nat.le_of_ble_eq_true c2) (fun _ _ => rfl) (toHeap_sim (by omega)) hof (by rw [c3, hE.m]) he) l ⟨x, hx, rfl, rfl, fun _ => rfl⟩
            · exact (hG.fail he).elim
          · exact (hG.fail he).elim
        · exact (hG.fail he).elim
      match l, he with
      | [], he => exact many he
      | [a], he =>
        intro ops ho
        obtain rfl := List.mem_singleton.1 ho
        refine evopsD_sound hm hT hSd hG ops et env [h] h [] rs [σ] σ [] hY hs hE ⟨⟨hs, Nat.le_refl _⟩, trivial⟩ trivial he ?_
        intro et' h' rs' σ' env' hn hr hs' hE' hl hg
        exact ⟨env', σ', .refl _ _ _, next et' h' rs' σ' env' hn hr hs' hE' hl hg⟩
      | a :: b :: r, he => exact many he
def CodeSd (P : Program) (T : Tab) (ev : EvFn) (c : VCode) : Prop := ∀ {A : Type} (R : AnsOps A) (G : A → Prop), Good R G → ∀ (ys : Ys) (ro : Option Nat) (et : ET) (env : Env) (h : CH) (k : Exit → ET → CH → A) (rs : Recs) (σ : Heap) (Q : Exit → Env → Heap → Prop),
  YOk P ys rs h.n → CSim rs h σ → FRel et env → G (evCode T ev R ys c ro et h k) → ContE G rs h (List.length env) k Q → vwp (semSpecs P) c ro Q env σ
theorem erange_sound (hm : P.follows .mixedOrders = true) (hT : TabOk P T) (hSd : Sd P ev) (hG : Good R G) {ys : Ys} {g : Operand} {ps : List Nat} {a b : VCode} {ro : Option Nat} {et : ET} {env : Env} {h : CH} {k : Exit → ET → CH → A} {rs : Recs} {σ : Heap} {Q : Exit → Env → Heap → Prop}
    (hY : YOk P ys rs h.n) (hs : CSim rs h σ) (hE : FRel et env) (he : G (erange T ev R ys (evalE et g) ps a b ro et h k)) (hk : ContE G rs h (List.length env) k Q) : vwp (semSpecs P) (.rangeF g ps a b) ro Q env σ := by
  rw [evalE_eq hE] at he
  unfold erange at he
  simp only [vwp, vrange]
  split at he
  · rename_i f first cap hg
    simp only [hg]
    split at he
    · rename_i vc rl nt hf
      have hF := hT.code f vc rl nt hf
      split at he
      · rename_i hchk
        obtain ⟨hin, hroom⟩ := hchk
        have hit : (semSpecs P).it f = some fun i Y args σ K => OkYield P i Y → VCallsTo P f args σ K := by
          simp only [semSpecs]; rw [if_pos hF.enterable]
        rw [hit]
        refine ⟨?_, fun r hYi => ?_⟩
        · cases ro with
          | none => trivial
          | some i =>
            simp only [inLpOk] at hin
            split at hin
            · rename_i st pend hgi; exact ⟨_, _, _, _, hs.lp hgi⟩
            · cases hin
        · let rs1 : Recs := fun i => if i = h.n then (env, r) else rs i
          have hag : ∀ i, i < h.n → rs1 i = rs i := fun i hi => by simp only [rs1]; rw [if_neg (by omega)]
          have hs1 : CSim rs1 (h.push (.lp .ready none)) (σ.push (.obj (.lp env r .ready none) true)) :=
            (hs.rs hag).push hroom (by simp [EB.to, rs1])
          have hY1 : YOk P ((h.n, ⟨ps, a, b, et⟩) :: ys) rs1 (h.push (.lp .ready none)).n := by
            intro i c hc
            simp only [Ys.find] at hc
            split at hc
            · rename_i hbi
              have hbi := Nat.eq_of_beq_eq_true hbi
              subst hbi
              obtain rfl := Option.some.inj hc
              refine ⟨Nat.lt_succ_self _, by simp only [rs1, if_true]; exact hE, ?_⟩
              rw [hs.n] at *
              simpa [rs1, hs.n] using hYi
            · obtain ⟨h1, h2, h3⟩ := hY i c hc
              rw [hag i h1]
              exact ⟨Nat.lt_succ_of_lt h1, h2, h3⟩
          rw [← hs.n]
          refine ecallTo_sound hm hSd hG hf hF hY1 hs1 he ?_
          intro v h' rs' σ' hn hr hs' hg'
          have hn' : h.n + 1 ≤ h'.n := hn
          unfold eendR at hg'
          unfold endR
          split at hg'
          · rename_i st pend hgi
            have hi := hs'.lt hgi
            simp only [hs'.lp hgi]
            split at hg'
            · rename_i hnb
              refine ⟨(by rintro rfl; cases hnb), ?_⟩
              have agree : ∀ j, j < h.n → rs' j = rs j := fun j hj => (hr j (Nat.lt_succ_of_lt hj)).trans (hag j hj)
              have hkl := hs'.kill hi
              split at hg'
              · exact hk _ _ _ rs' _ _ (by show h.n ≤ h'.n; omega) agree hkl hE rfl hg'
              · exact hk _ _ _ rs' _ _ (by show h.n ≤ h'.n; omega) agree hkl hE rfl hg'
              · exact hk _ _ _ rs' _ _ (by show h.n ≤ h'.n; omega) agree hkl hE rfl hg'
              · exact (hG.fail hg').elim
            · exact (hG.fail hg').elim
          · exact (hG.fail hg').elim
      · exact (hG.fail he).elim
    · exact (hG.fail he).elim
  · exact (hG.fail he).elim
theorem evCode_sound (hm : P.follows .mixedOrders = true) (hT : TabOk P T) (hSd : Sd P ev)
    (hloop : ∀ b, CodeSd P T ev b → CodeSd P T ev (.loop b)) : ∀ (c : VCode), CodeSd P T ev c := by
  intro c
  induction c with
  | skip => intro A R G hG ys ro et env h k rs σ Q hY hs hE he hk; exact hk _ _ _ rs σ _ (Nat.le_refl _) (fun _ _ => rfl) hs hE rfl he
  | region ops =>
    intro A R G hG ys ro et env h k rs σ Q hY hs hE he hk
    exact evops_sound hm hT hSd hG ops et env h rs σ hY hs hE he fun et' h' rs' σ' env' h1 h2 h3 h4 h5 h6 => hk _ _ _ _ _ _ h1 h2 h3 h4 h5 h6
  | regionD segs =>
    intro A R G hG ys ro et env h k rs σ Q hY hs hE he hk
    exact evsegs_sound hm hT hSd hG segs et env h rs σ hY hs hE he fun et' h' rs' σ' env' h1 h2 h3 h4 h5 h6 => hk _ _ _ _ _ _ h1 h2 h3 h4 h5 h6
  | rangeF g ps a b iha ihb =>
    intro A R G hG ys ro et env h k rs σ Q hY hs hE he hk
    exact erange_sound hm hT hSd hG hY hs hE he hk
  | seq a b iha ihb =>
    intro A R G hG ys ro et env h k rs σ Q hY hs hE he hk
    simp only [vwp]
    refine iha R G hG ys ro et env h _ rs σ _ hY hs hE he ?_
    intro e et' h' rs' σ' env' hn hr hs' hE' hl hg
    cases e with
    | normal =>
      refine ihb R G hG ys ro et' env' h' k rs' σ' Q (hY.mono hn hr) hs' hE' hg ?_
      intro e2 et2 h2 rs2 σ2 env2 hn2 hr2 hs2 hE2 hl2 hg2
      exact hk e2 et2 h2 rs2 σ2 env2 (Nat.le_trans hn hn2) (fun i hi => (hr2 i (by omega)).trans (hr i hi)) hs2 hE2 (hl2.trans hl) hg2
    | _ => exact hk _ et' h' rs' σ' env' hn hr hs' hE' hl hg
  | cond c a b iha ihb =>
    intro A R G hG ys ro et env h k rs σ Q hY hs hE he hk
    have he : G (econd R (evalE et c) (evCode T ev R ys a ro et h k) (evCode T ev R ys b ro et h k)) := he
    rw [evalE_eq hE] at he
    unfold econd at he
    simp only [vwp]
    split at he
    · rename_i hc
      rw [hc]
      exact ⟨fun _ => iha R G hG ys ro et env h k rs σ Q hY hs hE he hk, fun hh => by cases hh⟩
    · rename_i hc
      rw [hc]
      exact ⟨fun hh => (by cases hh), fun _ => ihb R G hG ys ro et env h k rs σ Q hY hs hE he hk⟩
    · exact (hG.fail he).elim
  | block id b ih =>
    intro A R G hG ys ro et env h k rs σ Q hY hs hE he hk
    simp only [vwp]
    refine ih R G hG ys ro et env h _ rs σ _ hY hs hE he ?_
    intro e et' h' rs' σ' env' hn hr hs' hE' hl hg
    cases e with
    | exit id' =>
      simp only [eblockK] at hg
      simp only [blockK]
      split at hg
      · rename_i hid; rw [if_pos hid]; exact hk _ et' h' rs' σ' env' hn hr hs' hE' hl hg
      · rename_i hid; rw [if_neg hid]; exact hk _ et' h' rs' σ' env' hn hr hs' hE' hl hg
    | _ => exact hk _ et' h' rs' σ' env' hn hr hs' hE' hl hg
  | loop b ih =>
    intro A R G hG ys ro et env h k rs σ Q hY hs hE he hk
    exact hloop b ih R G hG ys ro et env h k rs σ Q hY hs hE he hk
  | exit id => intro A R G hG ys ro et env h k rs σ Q hY hs hE he hk; exact hk _ _ _ rs σ _ (Nat.le_refl _) (fun _ _ => rfl) hs hE rfl he
  | ret => intro A R G hG ys ro et env h k rs σ Q hY hs hE he hk; exact hk _ _ _ rs σ _ (Nat.le_refl _) (fun _ _ => rfl) hs hE rfl he
  | bad => intro A R G hG ys ro et env h k rs σ Q hY hs hE he hk; exact (hG.fail he).elim
theorem flat_cases {v : Value} (h : flatV v = true) : plainV v = true ∨ ∃ vs, v = .tuple vs ∧ vs.toList.all plainV = true := by
  unfold flatV at h
  split at h <;> first | exact .inl rfl | exact .inr ⟨_, rfl, h⟩ | cases h
theorem flat_eq2 {ρ : Plc} {n : Nat} {v c : Value} (h : flatV v = true) (hv : VRel ρ n v c) : c = v := by
  rcases flat_cases h with hp | ⟨vs, rfl, hall⟩
  · exact flat_eq' hp hv
  · obtain ⟨ds, rfl, hl⟩ := hv.tuple_inv
    have hall : ∀ x ∈ vs.toList, plainV x = true := List.all_eq_true.1 hall
    have : ds.toList = vs.toList := by
      apply List.ext_getElem?
      intro i
      rcases Nat.lt_or_ge i vs.toList.length with hi | hi
      · have hi' : i < ds.toList.length := by rw [← hl.1]; exact hi
        rw [List.getElem?_eq_getElem hi, List.getElem?_eq_getElem hi']
        rw [flat_eq' (hall _ (List.getElem_mem hi)) (hl.2 i _ _ (List.getElem?_eq_getElem hi) (List.getElem?_eq_getElem hi'))]
      · rw [List.getElem?_eq_none hi, List.getElem?_eq_none (by rw [← hl.1]; exact hi)]
    rw [arr_eq this]
theorem flat_rel2 {ρ : Plc} {n : Nat} {v : Value} (h : flatV v = true) : VRel ρ n v v := by
  rcases flat_cases h with hp | ⟨vs, rfl, hall⟩
  · exact plain_rel hp
  · exact .tuple _ _ rfl fun i h1 _ => plain_rel (List.all_eq_true.1 hall _ (by simp))
theorem pick_range (m : Nat) (env : Env) (h : List.length env = m) : pickE (List.range m) env = env := by
  apply List.ext_getElem?
  intro i
  simp only [pickE, List.getElem?_map]
  rcases Nat.lt_or_ge i m with hi | hi
  · rw [List.getElem?_range hi]
    simp [List.getD_eq_getElem?_getD, h, hi]
  · rw [List.getElem?_eq_none (by simpa using hi), List.getElem?_eq_none (by omega)]; rfl
theorem spread_get : ∀ (l : List Nat) (vs base : List Value) (i : Nat), l.Nodup → vs.length = l.length → (∀ x ∈ l, x < base.length) → (spreadE l vs base)[i]? = if i ∈ l then vs[l.idxOf i]? else base[i]?
  | [], [], base, i, _, _, _ => by simp [spreadE]
  | [], _ :: _, _, _, _, h, _ => by simp at h
  | _ :: _, [], _, _, _, h, _ => by simp at h
  | x :: l, v :: vs, base, i, hn, h, hb => by
    obtain ⟨h1, h2⟩ := List.nodup_cons.1 hn
    simp only [spreadE]
    rw [spread_get l vs _ i h2 (by simpa using h) (fun y hy => by rw [List.length_set]; exact hb y (by simp [hy]))]
    by_cases hix : i = x
    · subst hix
      rw [if_neg h1, if_pos (by simp), List.getElem?_set_self (hb i (by simp))]
      simp
    · by_cases hil : i ∈ l
      · have e : (x :: l).idxOf i = l.idxOf i + 1 := by rw [List.idxOf_cons, show (x == i) = false from by simpa using Ne.symm hix]; rfl
        rw [if_pos hil, if_pos (by simp [hil]), e]; rfl
      · rw [if_neg hil, if_neg (by simp [hix, hil]), List.getElem?_set_ne (Ne.symm hix)]
theorem spread_range (m : Nat) (vs : List Value) (h : vs.length = m) : spreadE (List.range m) vs (List.replicate m poison) = vs := by
  apply List.ext_getElem?
  intro i
  rw [spread_get _ _ _ _ List.nodup_range (by simpa using h) (fun x hx => by simpa using hx)]
  split
  · rename_i hi
    have hi := List.mem_range.1 hi
    have : (List.range m).idxOf i = i := by
      have h1 : (List.range m).idxOf i < (List.range m).length := List.idxOf_lt_length_of_mem (List.mem_range.2 hi)
      have h2 := List.getElem_idxOf h1
      rw [List.getElem_range] at h2
      exact h2
    rw [this]
  · rename_i hi
    have hi : m ≤ i := by simpa using hi
    rw [List.getElem?_eq_none (by simpa using hi), List.getElem?_eq_none (by omega)]
theorem code_sound (hm : P.follows .mixedOrders = true) (hT : TabOk P T) : ∀ (n : Nat) (c : VCode), CodeSd P T (veval T n) c := by
  intro n
  induction n using Nat.strongRecOn with
  | ind n ihn =>
    have hSd : Sd P (veval T n) := by
      cases n with
      | zero => intro A R G hG ys c ro et env h k rs σ Q hY hs hE he hk; exact (hG.fail he).elim
      | succ n => intro A R G hG ys c ro et env h k rs σ Q hY hs hE he hk; exact ihn n (Nat.lt_succ_self _) c R G hG ys ro et env h k rs σ Q hY hs hE he hk
    refine evCode_sound hm hT hSd fun b ihb => ?_
    intro A R G hG ys ro et env h k rs σ Q hY hs hE he hk
    have hbody : ∀ j, j ≤ n → CodeSd P T (veval T j) b := fun j hj => by
      rcases Nat.lt_or_ge j n with h' | h'
      · exact ihn j h' b
      · obtain rfl : j = n := by omega
        exact ihb
    simp only [vwp]
    refine ⟨List.range (List.length env), fun j vs σ1 => j ≤ n ∧ ∃ et1 h1 rs1, h.n ≤ h1.n ∧ (∀ i, i < h.n → rs1 i = rs i) ∧ CSim rs1 h1 σ1 ∧ FRel et1 vs ∧ List.length vs = List.length env ∧ G (evCode T (veval T j) R ys (.loop b) ro et1 h1 k), n, ?_, ?_⟩
    · rw [pick_range _ _ rfl]
      exact ⟨Nat.le_refl _, et, h, rs, Nat.le_refl _, fun _ _ => rfl, hs, hE, rfl, he⟩
    · rintro j vs σ1 ⟨hj, et1, h1, rs1, g1, g2, g3, gE, g4, g5⟩
      rw [spread_range _ _ g4]
      refine hbody j hj R G hG ys ro et1 vs h1 _ rs1 σ1 _ (hY.mono g1 g2) g3 gE g5 ?_
      intro e et' h' rs' σ' env' hn hr hs' hE' hl hg
      cases e with
      | normal =>
        cases j with
        | zero => exact (hG.fail hg).elim
        | succ j =>
          refine ⟨j, Nat.lt_succ_self _, by omega, et', h', rs', Nat.le_trans g1 hn, fun i hi => (hr i (by omega)).trans (g2 i hi), hs', ?_, ?_, ?_⟩
          · rw [pick_range _ _ (hl.trans g4)]; exact hE'
          · rw [pick_range _ _ (hl.trans g4)]; exact hl.trans g4
          · exact hg
      | _ => exact hk _ et' h' rs' σ' env' (Nat.le_trans g1 hn) (fun i hi => (hr i (by omega)).trans (g2 i hi)) hs' hE' (hl.trans g4) hg
theorem veval_sound (hm : P.follows .mixedOrders = true) (hT : TabOk P T) (n : Nat) : Sd P (veval T n) := by
  cases n with
  | zero => intro A R G hG ys c ro et env h k rs σ Q hY hs hE he hk; exact (hG.fail he).elim
  | succ n => intro A R G hG ys c ro et env h k rs σ Q hY hs hE he hk; exact code_sound hm hT n c R G hG ys ro et env h k rs σ Q hY hs hE he hk
theorem HRel.forget {ρ : Plc} {σ : Heap} {w : World} (_ : HRel ρ σ w) : HRel (fun _ => none) Heap.empty w :=
  ⟨fun i b h => (by cases h), fun _ _ => rfl, fun i p h => (by cases h), fun i j p q b _ h => (by cases h)⟩
theorem called_empty {f : FuncId} {args : List Value} (ha : args.all plainV = true) {v : Value} (hv : flatV v = true) (he : Enterable P f) (h0 : VCallsTo P f args Heap.empty (fun u _ => u = v)) {σ : Heap} {K : Value → Heap → Prop} (hK : K v σ) : VCalled P f args σ K := by
  refine VCallsTo.called he ?_
  intro ρ w cargs hH hL
  refine (h0 (fun _ => none) w cargs hH.forget ?_).mono ?_
  · refine ⟨hL.1, fun i a c ha' hc => ?_⟩
    have hp := List.all_eq_true.1 ha a (List.mem_of_getElem? ha')
    have := flat_eq' hp (hL.2 i a c ha' hc)
    subst this
    exact plain_rel hp
  · rintro e w' ⟨c, rfl, u, ρ', σ', rfl, hvc, hH', hE⟩
    refine ⟨c, rfl, u, ρ, σ, hK, ?_, ?_, ?_⟩
    · have : c = u := flat_eq2 hv hvc
      subst this
      exact flat_rel2 hv
    · exact hH.world hE.size fun i p hp => hE.keep _ (hH.lt i p hp) (fun ⟨_, _, _, h, _⟩ => by cases h)
    · exact ⟨hE.os, hE.tape, hE.output, hE.size, fun B hB _ => hE.keep B hB (fun ⟨_, _, _, h, _⟩ => by cases h), fun _ _ h => h, Nat.le_refl _, fun _ _ _ h => h⟩
theorem run_call (hm : P.follows .mixedOrders = true) (hT : TabOk P T) (n : Nat) {f : FuncId} {vc : VCode} {rl : List VResult} {nt : Nat} (hF : Fun P f vc rl nt) (args : List Value) (ha : args.all plainV = true) (v : Value) (hv : flatV v = true) (p : Value → Bool) (hp : ∀ u, p u = true → u = v)
    (hnt : Nat.ble (ET.of args nt).m 1000000 = true) (he : veval T n boolOps [] vc none (ET.of args nt) CH.empty (eend false rl fun v _ => p v) = true) {σ : Heap} {K : Value → Heap → Prop} (hK : K v σ) : VCalled P f args σ K := by
  refine called_empty ha hv hF.enterable ?_ hK
  refine hF.callsTo hm okSem ?_
  exact veval_sound hm hT n boolOps (· = true) boolGood [] vc none _ _ CH.empty _ (fun _ => ([], default)) Heap.empty _ (fun i c h => by cases h) ⟨rfl, by decide, fun i => rfl⟩ (ET.of_rel (Nat.le_of_ble_eq_true hnt)) he
    (eend_sound (R := boolOps) boolGood fun v' h' rs' σ' _ _ _ hg => hp v' hg)
end
end Go.V
namespace Go.V
open Go
def EntOk (P : Program) (f : FuncId) : Option FEnt → Prop
  | none => True
  | some (.code vc rs nt) => Fun P f vc rs nt
  | some (.codeJ vc rs nt) => Fun P f vc rs nt
  | some .same => ∀ (v : Value) (σ : Heap) (K : Value → Heap → Prop), K v σ → VCalled P f [v] σ K
def EntsOk (P : Program) : Nat → List (Option FEnt) → Prop
  | _, [] => True
  | i, e :: l => EntOk P i e ∧ EntsOk P (i + 1) l
theorem EntsOk.get {P : Program} : ∀ {l : List (Option FEnt)} {i j : Nat} {e : FEnt}, EntsOk P i l → l[j]? = some (some e) → EntOk P (i + j) (some e)
  | [], _, _, _, _, h => by simp at h
  | x :: l, i, 0, e, h, hj => by simp at hj; subst hj; exact h.1
  | x :: l, i, j + 1, e, h, hj => by
    have := EntsOk.get (l := l) (i := i + 1) (j := j) h.2 (by simpa using hj)
    rw [Nat.add_assoc, Nat.add_comm 1 j] at this
    exact this
theorem tabOk_of {P : Program} {l : List (Option FEnt)} (h : EntsOk P 0 l) : TabOk P (fun f => (l[f]?).join) := by
  have key : ∀ f e, (l[f]?).join = some e → EntOk P f (some e) := fun f e he => by
    have := EntsOk.get (j := f) (e := e) h (by
      cases hl : l[f]? with
      | none => rw [hl] at he; cases he
      | some x => rw [hl] at he; simp at he; rw [he])
    simpa using this
  exact ⟨fun f vc rs nt he => key f _ he, fun f vc rs nt he => key f _ he, fun f he => key f _ he⟩
theorem ext_same {P : Program} {f : FuncId} {fn : Func} {e : Array Value → Sem Value} (hf : P.funcs[f]? = some fn) (h1 : (fn.name == "runtime.NumGoroutine") = false) (h2 : fn.body.isNone = true) (h3 : Extern.findNext fn = none) (h4 : Extern.find fn = some e) (h5 : ∀ (c : Value) w, (e #[c]).run P w = .ok c w)
    (v : Value) (σ : Heap) (K : Value → Heap → Prop) (hK : K v σ) : VCalled P f [v] σ K := by
  intro ρ w cargs hH hL
  obtain ⟨c, hc⟩ : ∃ c, cargs = #[c] := by
    have hl := hL.1
    match cargs, hl with
    | ⟨[c]⟩, _ => exact ⟨c, rfl⟩
  subst hc
  refine .inr ⟨c, ⟨v, ρ, σ, hK, hL.2 0 v c rfl rfl, hH, Ext.refl _ _ _⟩, fun w' _ => ?_⟩
  have h2' : fn.body = none := by simpa using h2
  have h1' : ¬ fn.name = "runtime.NumGoroutine" := by simpa using h1
  simp [callFunc, hf, h1', h2', h3, h4, h5]
def isTrue : Value → Bool
  | .bool true => true
  | _ => false
theorem isTrue_eq {v : Value} (h : isTrue v = true) : v = .bool true := by
  unfold isTrue at h
  split at h
  · rfl
  · cases h
theorem run_true {P : Program} (hm : P.follows .mixedOrders = true) {T : Tab} (hT : TabOk P T) (n : Nat) {f : FuncId} {vc : VCode} {rl : List VResult} {nt : Nat} (hF : Fun P f vc rl nt) (hnt : Nat.ble (ET.of [] nt).m 1000000 = true)
    (he : veval T n boolOps [] vc none (ET.of [] nt) CH.empty (eend false rl fun v _ => isTrue v) = true) {σ : Heap} {K : Value → Heap → Prop} (hK : K (.bool true) σ) : VCalled P f [] σ K :=
  run_call hm hT n hF [] rfl (.bool true) rfl isTrue (fun _ h => isTrue_eq h) hnt he hK
end Go.V
namespace Go.Proofs.Tryd
open Go Go.V
theorem same108 : EntOk Tryd.prog 108 (some .same) := ext_same (e := Extern.AbiNoEscape.same) Tryd.func108 (by kernel_rfl) (by kernel_rfl) (by kernel_rfl) (by kernel_rfl) (fun _ _ => rfl)
noncomputable def tabL : List (Option FEnt) := [
  none,
  none,
  some (.code c2 [] 1),
  some (.code c3 [.tmp 4] 79),
  some (.code c4 [.tmp 2] 114),
  some (.code c5 [.tmp 2] 167),
  some (.code c6 [.tmp 4] 270),
  some (.code c7 [.tmp 4] 232),
  some (.code c8 [.tmp 2] 434),
  some (.code c9 [.tmp 6] 235),
  some (.code c10 [.tmp 4] 380),
  some (.code c11 [.tmp 6] 22),
  some (.code c12 [.tmp 0] 240),
  some (.code c13 [.cell 2 true 2] 9),
  some (.code c14 [.tmp 2] 6),
  some (.codeJ c15 [.cell 4 false 1, .tmp 5, .tmp 6] 86),
  some (.code c16 [.tmp 4] 38),
  some (.code c17 [.tmp 4] 26),
  some (.code c18 [.tmp 4] 34),
  some (.code c19 [.tmp 4, .tmp 5] 125),
  some (.code c20 [.tmp 2] 19),
  some (.code c21 [.tmp 2] 22),
  some (.codeJ c22 [.tmp 2, .tmp 3] 40),
  some (.codeJ c23 [.tmp 2, .tmp 3] 75),
  some (.codeJ c24 [.tmp 2, .tmp 3] 55),
  some (.code c25 [.tmp 2, .tmp 3] 87),
  some (.code c26 [.tmp 2] 27),
  some (.code c27 [.tmp 2, .tmp 3] 52),
  some (.code c28 [.tmp 8] 67),
  some (.code c29 [.tmp 6] 15),
  some (.code c30 [.tmp 6] 32),
  some (.code c31 [.cell 2 true 2] 48),
  some (.code c32 [.cell 2 true 2] 51),
  some (.code c33 [.tmp 4] 40),
  some (.codeJ c34 [.tmp 6, .tmp 7] 61),
  some (.code c35 [.cell 2 true 2] 9),
  some (.code c36 [.tmp 4, .tmp 5] 43),
  some (.codeJ c37 [.tmp 4, .tmp 5] 31),
  some (.code c38 [.tmp 4] 26),
  some (.codeJ c39 [.tmp 6, .tmp 7, .tmp 8] 97),
  some (.code c40 [.tmp 2] 6),
  some (.code c41 [.tmp 4] 67),
  some (.codeJ c42 [.tmp 6, .tmp 7, .tmp 8] 106),
  some (.codeJ c43 [.tmp 6, .tmp 7] 50),
  some (.code c44 [.cell 0 true 2] 3),
  some (.code c45 [.tmp 4] 26),
  some (.code c46 [.tmp 2] 8),
  some (.code c47 [.tmp 2] 4),
  some (.code c48 [.tmp 4] 28),
  some (.code c49 [] 28),
  some (.code c50 [.tmp 2] 33),
  some (.code c51 [.tmp 6] 28),
  some (.code c52 [.tmp 2] 11),
  some (.code c53 [.tmp 2] 22),
  some (.code c54 [.tmp 4] 10),
  some (.code c55 [.tmp 4] 9),
  some (.code c56 [.tmp 4] 48),
  some (.code c57 [.tmp 2] 7),
  some (.code c58 [.tmp 4] 40),
  some (.code c59 [.tmp 6] 34),
  some (.code c60 [.tmp 4] 19),
  some (.code c61 [.tmp 3] 8),
  some (.code c62 [.tmp 2] 27),
  some (.code c63 [.tmp 2] 28),
  some (.code c64 [.tmp 4] 22),
  some (.code c65 [.tmp 3] 20),
  some (.code c66 [.tmp 6] 11),
  some (.code c67 [.tmp 4] 22),
  some (.code c68 [.tmp 4] 9),
  some (.code c69 [.tmp 4] 48),
  some (.code c70 [.tmp 4] 48),
  some (.code c71 [.cell 6 true 4, .tmp 7] 50),
  some (.codeJ c72 [.tmp 2, .tmp 3] 46),
  some (.code c73 [.tmp 4] 16),
  some (.code c74 [.tmp 9] 45),
  some (.code c75 [] 19),
  some (.code c76 [.tmp 6] 15),
  some (.code c77 [.tmp 2] 4),
  some (.code c78 [.tmp 2] 25),
  some (.code c79 [.tmp 6] 11),
  some (.code c80 [.tmp 6] 11),
  some (.code c81 [.tmp 4] 17),
  some (.code c82 [.tmp 2] 4),
  some (.code c83 [.tmp 6] 17),
  some (.code c84 [.tmp 2] 14),
  some (.code c85 [.tmp 4] 9),
  some (.code c86 [.tmp 4] 13),
  some (.code c87 [.tmp 4] 19),
  some (.code c88 [.tmp 4, .tmp 5] 30),
  some (.code c89 [.tmp 3] 15),
  some (.code c90 [.tmp 4] 43),
  some (.code c91 [.tmp 4] 9),
  some (.code c92 [.tmp 4] 30),
  some (.code c93 [] 19),
  some (.code c94 [.tmp 4] 13),
  some (.code c95 [.tmp 4] 13),
  some (.code c96 [] 20),
  some (.code c97 [.tmp 4] 19),
  some (.code c98 [.tmp 4, .tmp 5] 17),
  some (.code c99 [.tmp 4, .tmp 5] 51),
  some (.code c100 [.tmp 4] 17),
  some (.code c101 [.tmp 4] 23),
  some (.code c102 [.cell 2 true 256, .tmp 3] 21),
  some (.code c103 [.tmp 4] 16),
  some (.code c104 [.tmp 4] 22),
  some (.code c105 [.tmp 4] 23),
  some (.code c106 [.tmp 4] 34),
  some (.code c107 [.tmp 4] 19),
  some .same,
  some (.code c109 [.tmp 4] 10),
  some (.code c110 [.tmp 2, .tmp 3] 19),
  some (.code c111 [.tmp 4] 9),
  some (.code c112 [.tmp 2, .tmp 3] 51),
  some (.code c113 [.tmp 2, .tmp 3] 117),
  some (.code c114 [.tmp 4] 187),
  some (.code c115 [.tmp 2] 6),
  some (.code c116 [.tmp 4] 8),
  some (.code c117 [.tmp 2] 17),
  some (.code c118 [.tmp 2] 6),
  none,
  some (.code c120 [.tmp 4] 8)]
noncomputable def tab : Tab := fun f => (tabL[f]?).join
theorem tabL_ok : EntsOk Tryd.prog 0 tabL := ⟨trivial, trivial, fun2, fun3, fun4, fun5, fun6, fun7, fun8, fun9, fun10, fun11, fun12, fun13, fun14, fun15, fun16, fun17, fun18, fun19, fun20, fun21, fun22, fun23, fun24, fun25, fun26, fun27, fun28, fun29, fun30, fun31, fun32, fun33, fun34, fun35, fun36, fun37, fun38, fun39, fun40, fun41, fun42, fun43, fun44, fun45, fun46, fun47, fun48, fun49, fun50, fun51, fun52, fun53, fun54, fun55, fun56, fun57, fun58, fun59, fun60, fun61, fun62, fun63, fun64, fun65, fun66, fun67, fun68, fun69, fun70, fun71, fun72, fun73, fun74, fun75, fun76, fun77, fun78, fun79, fun80, fun81, fun82, fun83, fun84, fun85, fun86, fun87, fun88, fun89, fun90, fun91, fun92, fun93, fun94, fun95, fun96, fun97, fun98, fun99, fun100, fun101, fun102, fun103, fun104, fun105, fun106, fun107, same108, fun109, fun110, fun111, fun112, fun113, fun114, fun115, fun116, fun117, fun118, trivial, fun120, trivial⟩
theorem tab_ok : TabOk Tryd.prog tab := tabOk_of tabL_ok
theorem known_run : veval tab 300 boolOps [] c12 none (ET.of [] 240) CH.empty (eend false [.tmp 0] fun v _ => isTrue v) = true := by kernel_rfl
theorem known_ok {σ : Heap} {K : Value → Heap → Prop} (hK : K (.bool true) σ) : VCalled Tryd.prog 12 [] σ K := run_true mixed tab_ok 300 fun12 (by decide) known_run hK
end Go.Proofs.Tryd
set_option linter.unusedVariables false
namespace Go.Proofs.Tryd
open Go Go.V Go.Proofs
def al_law11_known : AL (Unit) := .nil
def pre_law11_known (d : Unit) : Prop := True
def res_law11_known (d : Unit) : SV := .val .bo true
def obs_law11_known (d : Unit) : List OB := []
def s_law11_known : CSp := mkSp al_law11_known pre_law11_known res_law11_known obs_law11_known
abbrev Ok_law11_known : Prop := OkC Tryd.prog 12 s_law11_known
theorem ok_law11_known : Ok_law11_known := okC_true fun _ _ h => known_ok h
end Go.Proofs.Tryd
set_option linter.unusedVariables false
namespace Go.Proofs.Tryd
open Go Go.V Go.Proofs
def st (lw l : List Int) (w k : Nat) : Bool := isRight lw l w && (List.range k).all fun j => decide (j ≤ w) || (l.getD j 0 != l.getD w 0 || !isRight lw l j)
theorem aget_cons (a : Int) (b : Bool) (m : List (Int × Bool)) (e : Int) (d : Bool) : gq.aget (.i .i64) ((a, b) :: m) e d = if e = a then b else gq.aget (.i .i64) m e d := by
  show (if (e == a) = true then b else gq.aget (.i .i64) m e d) = _
  simp only [beq_iff_eq]
theorem aput_cons (a : Int) (b : Bool) (m : List (Int × Bool)) (k : Int) (v : Bool) : aput (.i .i64) ((a, b) :: m) k v = if k = a then (k, v) :: m else (a, b) :: aput (.i .i64) m k v := by
  show (if (k == a) = true then (k, v) :: m else (a, b) :: aput (.i .i64) m k v) = _
  simp only [beq_iff_eq]
theorem aget_aput (m : List (Int × Bool)) (k : Int) (v : Bool) (e : Int) (d : Bool) : gq.aget (.i .i64) (aput (.i .i64) m k v) e d = if e = k then v else gq.aget (.i .i64) m e d := by
  induction m with
  | nil => exact aget_cons k v [] e d
  | cons p m ih =>
    obtain ⟨a, b⟩ := p
    rw [aput_cons, aget_cons]
    by_cases h : k = a
    · subst h
      rw [if_pos rfl, aget_cons]
      split <;> rfl
    · rw [if_neg h, aget_cons, ih]
      by_cases h2 : e = a
      · subst h2; rw [if_pos rfl, if_neg (Ne.symm h), if_pos rfl]
      · rw [if_neg h2, if_neg h2]
end Go.Proofs.Tryd