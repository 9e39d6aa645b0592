/- A framework for walks, contracts of functions, and their proofs: part 6. -/
import Derived.Test.YtoagdbabgiekgaaDoorR5
set_option linter.unusedVariables false
namespace Go.Proofs.Tryd
open Go Go.V Go.Proofs
def al_law11_EyeLayers : AL (List Int) := (.one (.k (.list (.i .i64))))
def pre_law11_EyeLayers (d : List Int) : Prop := True
def res_law11_EyeLayers (d : List Int) : SV := .val .bo true
def obs_law11_EyeLayers (d : List Int) : List OB := []
def s_law11_EyeLayers : CSp := mkSp al_law11_EyeLayers pre_law11_EyeLayers res_law11_EyeLayers obs_law11_EyeLayers
def vc_law11_EyeLayers (l : List Int) : Prop :=
  (True) ∧ ((decide ((((List.length l) : Nat) : Int) > (110 : Int))) = false → ((aloneErr l) == (0 : Int)) = true → l.length ≤ 1000000) ∧ (((decide ((((List.length l) : Nat) : Int) > (110 : Int))) || (((aloneErr l) == (0 : Int)) && (decide ((((List.length (refThr l)) : Nat) : Int) > (8 : Int))))) = true →
    (True) ∧ (true = true ∧ (True))) ∧
  (((decide ((((List.length l) : Nat) : Int) > (110 : Int))) || (((aloneErr l) == (0 : Int)) && (decide ((((List.length (refThr l)) : Nat) : Int) > (8 : Int))))) = false →
    (l.length ≤ 110) ∧ (l.length ≤ 110) ∧ (l.length ≤ 1000000) ∧ ((!(l == l)) = true →
      (false = true ∧ (True))) ∧
    ((!(l == l)) = false →
      (((aloneErr l) != (0 : Int)) = true →
        (((aloneErr l == (aloneErr l)) && ((((List.length (if aloneErr l = 0 then layersW l else [])) : Nat) : Int) == (0 : Int))) = true → True) ∧ ((((aloneErr l == (aloneErr l)) && ((((List.length (if aloneErr l = 0 then layersW l else [])) : Nat) : Int) == (0 : Int))) && true) = true ∧ (True))) ∧
      (((aloneErr l) != (0 : Int)) = false →
        ((aloneErr l != (0 : Int)) = false → l.length ≤ 1000000) ∧ ((aloneErr l != (0 : Int)) = false → layPre l (refThr l) (0 : Int) ([] : List (List Int))) ∧ (((aloneErr l != (0 : Int)) || ((((List.length (if aloneErr l = 0 then layersW l else [])) : Nat) : Int) != (layR l (refThr l).length ((refThr l).drop (0 : Int).toNat) ([] : List (List Int))))) = true →
          (false = true ∧ (True))) ∧
        (((aloneErr l != (0 : Int)) || ((((List.length (if aloneErr l = 0 then layersW l else [])) : Nat) : Int) != (layR l (refThr l).length ((refThr l).drop (0 : Int).toNat) ([] : List (List Int))))) = false →
          ∃ (e3 : Unit) (d30 : (List (Int × Bool)) × Int × Int), ((l = l ∧ True ∧ True ∧ (0 : Int) = d30.2.1 ∧ (0 : Int) = d30.2.2 ∧ True) ∧ (((if aloneErr l = 0 then layersW l else []) = (if aloneErr l = 0 then layersW l else []) ∧ (if aloneErr l = 0 then layersW l else []).isEmpty = (List.isEmpty (if aloneErr l = 0 then layersW l else []))) ∧ ([] = d30.1) ∧ True)) ∧
          LoopP (fun (d3 : (List (Int × Bool)) × Int × Int) (q3 : ((List (Int × Bool)) × Int × Int) → Prop) =>
            ((decide (d3.2.2 < (((List.length (if aloneErr l = 0 then layersW l else [])) : Nat) : Int))) = true →
              ∃ (e6 : Int) (d60 : (List (Int × Bool)) × Int × Int), ((l = l ∧ True ∧ True ∧ d3.2.1 = d60.2.1 ∧ d3.2.2 = e6 ∧ (0 : Int) = d60.2.2 ∧ True) ∧ (((if aloneErr l = 0 then layersW l else []) = (if aloneErr l = 0 then layersW l else []) ∧ (List.isEmpty (if aloneErr l = 0 then layersW l else [])) = (List.isEmpty (if aloneErr l = 0 then layersW l else []))) ∧ (d3.1 = d60.1) ∧ True)) ∧
              LoopP (fun (d6 : (List (Int × Bool)) × Int × Int) (q6 : ((List (Int × Bool)) × Int × Int) → Prop) =>
                (0 ≤ e6) ∧ (e6 < (List.length (if aloneErr l = 0 then layersW l else []))) ∧ ((decide (d6.2.2 < (((List.length (List.getD (if aloneErr l = 0 then layersW l else []) (Int.toNat e6) [])) : Nat) : Int))) = true →
                  (0 ≤ e6) ∧ (e6 < (List.length (if aloneErr l = 0 then layersW l else []))) ∧ (0 ≤ d6.2.2) ∧ (d6.2.2 < (List.length (List.getD (if aloneErr l = 0 then layersW l else []) (Int.toNat e6) []))) ∧ (InK .i64 ((((List.length l) : Nat) : Int) - (1 : Int))) ∧ (True) ∧ ((!(inI (List.getD (List.getD (if aloneErr l = 0 then layersW l else []) (Int.toNat e6) []) (Int.toNat d6.2.2) 0) (0 : Int) ((((List.length l) : Nat) : Int) - (1 : Int)))) = false → 0 ≤ (List.getD (List.getD (if aloneErr l = 0 then layersW l else []) (Int.toNat e6) []) (Int.toNat d6.2.2) 0)) ∧ ((!(inI (List.getD (List.getD (if aloneErr l = 0 then layersW l else []) (Int.toNat e6) []) (Int.toNat d6.2.2) 0) (0 : Int) ((((List.length l) : Nat) : Int) - (1 : Int)))) = false → (List.getD (List.getD (if aloneErr l = 0 then layersW l else []) (Int.toNat e6) []) (Int.toNat d6.2.2) 0) < (List.length l)) ∧ ((((!(inI (List.getD (List.getD (if aloneErr l = 0 then layersW l else []) (Int.toNat e6) []) (Int.toNat d6.2.2) 0) (0 : Int) ((((List.length l) : Nat) : Int) - (1 : Int)))) || (decide ((List.getD l (Int.toNat (List.getD (List.getD (if aloneErr l = 0 then layersW l else []) (Int.toNat e6) []) (Int.toNat d6.2.2) 0)) 0) < (0 : Int)))) || (gq.aget (.i .i64) d6.1 (List.getD (List.getD (if aloneErr l = 0 then layersW l else []) (Int.toNat e6) []) (Int.toNat d6.2.2) 0) false)) = false → (decide (d6.2.2 > (0 : Int))) = true → 0 ≤ e6) ∧ ((((!(inI (List.getD (List.getD (if aloneErr l = 0 then layersW l else []) (Int.toNat e6) []) (Int.toNat d6.2.2) 0) (0 : Int) ((((List.length l) : Nat) : Int) - (1 : Int)))) || (decide ((List.getD l (Int.toNat (List.getD (List.getD (if aloneErr l = 0 then layersW l else []) (Int.toNat e6) []) (Int.toNat d6.2.2) 0)) 0) < (0 : Int)))) || (gq.aget (.i .i64) d6.1 (List.getD (List.getD (if aloneErr l = 0 then layersW l else []) (Int.toNat e6) []) (Int.toNat d6.2.2) 0) false)) = false → (decide (d6.2.2 > (0 : Int))) = true → e6 < (List.length (if aloneErr l = 0 then layersW l else []))) ∧ ((((!(inI (List.getD (List.getD (if aloneErr l = 0 then layersW l else []) (Int.toNat e6) []) (Int.toNat d6.2.2) 0) (0 : Int) ((((List.length l) : Nat) : Int) - (1 : Int)))) || (decide ((List.getD l (Int.toNat (List.getD (List.getD (if aloneErr l = 0 then layersW l else []) (Int.toNat e6) []) (Int.toNat d6.2.2) 0)) 0) < (0 : Int)))) || (gq.aget (.i .i64) d6.1 (List.getD (List.getD (if aloneErr l = 0 then layersW l else []) (Int.toNat e6) []) (Int.toNat d6.2.2) 0) false)) = false → (decide (d6.2.2 > (0 : Int))) = true → InK .i64 (d6.2.2 - (1 : Int))) ∧ ((((!(inI (List.getD (List.getD (if aloneErr l = 0 then layersW l else []) (Int.toNat e6) []) (Int.toNat d6.2.2) 0) (0 : Int) ((((List.length l) : Nat) : Int) - (1 : Int)))) || (decide ((List.getD l (Int.toNat (List.getD (List.getD (if aloneErr l = 0 then layersW l else []) (Int.toNat e6) []) (Int.toNat d6.2.2) 0)) 0) < (0 : Int)))) || (gq.aget (.i .i64) d6.1 (List.getD (List.getD (if aloneErr l = 0 then layersW l else []) (Int.toNat e6) []) (Int.toNat d6.2.2) 0) false)) = false → (decide (d6.2.2 > (0 : Int))) = true → 0 ≤ (d6.2.2 - (1 : Int))) ∧ ((((!(inI (List.getD (List.getD (if aloneErr l = 0 then layersW l else []) (Int.toNat e6) []) (Int.toNat d6.2.2) 0) (0 : Int) ((((List.length l) : Nat) : Int) - (1 : Int)))) || (decide ((List.getD l (Int.toNat (List.getD (List.getD (if aloneErr l = 0 then layersW l else []) (Int.toNat e6) []) (Int.toNat d6.2.2) 0)) 0) < (0 : Int)))) || (gq.aget (.i .i64) d6.1 (List.getD (List.getD (if aloneErr l = 0 then layersW l else []) (Int.toNat e6) []) (Int.toNat d6.2.2) 0) false)) = false → (decide (d6.2.2 > (0 : Int))) = true → (d6.2.2 - (1 : Int)) < (List.length (List.getD (if aloneErr l = 0 then layersW l else []) (Int.toNat e6) []))) ∧ (((((!(inI (List.getD (List.getD (if aloneErr l = 0 then layersW l else []) (Int.toNat e6) []) (Int.toNat d6.2.2) 0) (0 : Int) ((((List.length l) : Nat) : Int) - (1 : Int)))) || (decide ((List.getD l (Int.toNat (List.getD (List.getD (if aloneErr l = 0 then layersW l else []) (Int.toNat e6) []) (Int.toNat d6.2.2) 0)) 0) < (0 : Int)))) || (gq.aget (.i .i64) d6.1 (List.getD (List.getD (if aloneErr l = 0 then layersW l else []) (Int.toNat e6) []) (Int.toNat d6.2.2) 0) false)) || ((decide (d6.2.2 > (0 : Int))) && (decide ((List.getD (List.getD (if aloneErr l = 0 then layersW l else []) (Int.toNat e6) []) (Int.toNat d6.2.2) 0) ≤ (List.getD (List.getD (if aloneErr l = 0 then layersW l else []) (Int.toNat e6) []) (Int.toNat (d6.2.2 - (1 : Int))) 0))))) = true →
                    (false = true ∧ (True))) ∧
                  (((((!(inI (List.getD (List.getD (if aloneErr l = 0 then layersW l else []) (Int.toNat e6) []) (Int.toNat d6.2.2) 0) (0 : Int) ((((List.length l) : Nat) : Int) - (1 : Int)))) || (decide ((List.getD l (Int.toNat (List.getD (List.getD (if aloneErr l = 0 then layersW l else []) (Int.toNat e6) []) (Int.toNat d6.2.2) 0)) 0) < (0 : Int)))) || (gq.aget (.i .i64) d6.1 (List.getD (List.getD (if aloneErr l = 0 then layersW l else []) (Int.toNat e6) []) (Int.toNat d6.2.2) 0) false)) || ((decide (d6.2.2 > (0 : Int))) && (decide ((List.getD (List.getD (if aloneErr l = 0 then layersW l else []) (Int.toNat e6) []) (Int.toNat d6.2.2) 0) ≤ (List.getD (List.getD (if aloneErr l = 0 then layersW l else []) (Int.toNat e6) []) (Int.toNat (d6.2.2 - (1 : Int))) 0))))) = false →
                    (InK .i64 (d6.2.1 + (1 : Int))) ∧ (InK .i64 (d6.2.2 + (1 : Int))) ∧ (∃ d7 : (List (Int × Bool)) × Int × Int, ((l = l ∧ True ∧ True ∧ (d6.2.1 + (1 : Int)) = d7.2.1 ∧ e6 = e6 ∧ (d6.2.2 + (1 : Int)) = d7.2.2 ∧ True) ∧ (((if aloneErr l = 0 then layersW l else []) = (if aloneErr l = 0 then layersW l else []) ∧ (List.isEmpty (if aloneErr l = 0 then layersW l else [])) = (List.isEmpty (if aloneErr l = 0 then layersW l else []))) ∧ ((aput (.i .i64) d6.1 (List.getD (List.getD (if aloneErr l = 0 then layersW l else []) (Int.toNat e6) []) (Int.toNat d6.2.2) 0) true) = d7.1) ∧ True)) ∧ q6 d7))) ∧
                ((decide (d6.2.2 < (((List.length (List.getD (if aloneErr l = 0 then layersW l else []) (Int.toNat e6) [])) : Nat) : Int))) = false →
                  (0 ≤ e6) ∧ (e6 < (List.length (if aloneErr l = 0 then layersW l else []))) ∧ (((((List.length (List.getD (if aloneErr l = 0 then layersW l else []) (Int.toNat e6) [])) : Nat) : Int) == (0 : Int)) = false → 0 ≤ e6) ∧ (((((List.length (List.getD (if aloneErr l = 0 then layersW l else []) (Int.toNat e6) [])) : Nat) : Int) == (0 : Int)) = false → e6 < (List.length (if aloneErr l = 0 then layersW l else []))) ∧ (((((List.length (List.getD (if aloneErr l = 0 then layersW l else []) (Int.toNat e6) [])) : Nat) : Int) == (0 : Int)) = false → (List.getD (if aloneErr l = 0 then layersW l else []) (Int.toNat e6) []).length ≤ 1000000 ∧ ∀ x ∈ (List.getD (if aloneErr l = 0 then layersW l else []) (Int.toNat e6) []), 0 ≤ x ∧ x < l.length) ∧ ((((((List.length (List.getD (if aloneErr l = 0 then layersW l else []) (Int.toNat e6) [])) : Nat) : Int) == (0 : Int)) || (!(eachB l (List.getD (if aloneErr l = 0 then layersW l else []) (Int.toNat e6) []) false))) = false → (decide (e6 > (0 : Int))) = true → 0 ≤ e6) ∧ ((((((List.length (List.getD (if aloneErr l = 0 then layersW l else []) (Int.toNat e6) [])) : Nat) : Int) == (0 : Int)) || (!(eachB l (List.getD (if aloneErr l = 0 then layersW l else []) (Int.toNat e6) []) false))) = false → (decide (e6 > (0 : Int))) = true → e6 < (List.length (if aloneErr l = 0 then layersW l else []))) ∧ ((((((List.length (List.getD (if aloneErr l = 0 then layersW l else []) (Int.toNat e6) [])) : Nat) : Int) == (0 : Int)) || (!(eachB l (List.getD (if aloneErr l = 0 then layersW l else []) (Int.toNat e6) []) false))) = false → (decide (e6 > (0 : Int))) = true → 0 ≤ (0 : Int)) ∧ ((((((List.length (List.getD (if aloneErr l = 0 then layersW l else []) (Int.toNat e6) [])) : Nat) : Int) == (0 : Int)) || (!(eachB l (List.getD (if aloneErr l = 0 then layersW l else []) (Int.toNat e6) []) false))) = false → (decide (e6 > (0 : Int))) = true → (0 : Int) < (List.length (List.getD (if aloneErr l = 0 then layersW l else []) (Int.toNat e6) []))) ∧ ((((((List.length (List.getD (if aloneErr l = 0 then layersW l else []) (Int.toNat e6) [])) : Nat) : Int) == (0 : Int)) || (!(eachB l (List.getD (if aloneErr l = 0 then layersW l else []) (Int.toNat e6) []) false))) = false → (decide (e6 > (0 : Int))) = true → InK .i64 (e6 - (1 : Int))) ∧ ((((((List.length (List.getD (if aloneErr l = 0 then layersW l else []) (Int.toNat e6) [])) : Nat) : Int) == (0 : Int)) || (!(eachB l (List.getD (if aloneErr l = 0 then layersW l else []) (Int.toNat e6) []) false))) = false → (decide (e6 > (0 : Int))) = true → 0 ≤ (e6 - (1 : Int))) ∧ ((((((List.length (List.getD (if aloneErr l = 0 then layersW l else []) (Int.toNat e6) [])) : Nat) : Int) == (0 : Int)) || (!(eachB l (List.getD (if aloneErr l = 0 then layersW l else []) (Int.toNat e6) []) false))) = false → (decide (e6 > (0 : Int))) = true → (e6 - (1 : Int)) < (List.length (if aloneErr l = 0 then layersW l else []))) ∧ ((((((List.length (List.getD (if aloneErr l = 0 then layersW l else []) (Int.toNat e6) [])) : Nat) : Int) == (0 : Int)) || (!(eachB l (List.getD (if aloneErr l = 0 then layersW l else []) (Int.toNat e6) []) false))) = false → (decide (e6 > (0 : Int))) = true → 0 ≤ (0 : Int)) ∧ ((((((List.length (List.getD (if aloneErr l = 0 then layersW l else []) (Int.toNat e6) [])) : Nat) : Int) == (0 : Int)) || (!(eachB l (List.getD (if aloneErr l = 0 then layersW l else []) (Int.toNat e6) []) false))) = false → (decide (e6 > (0 : Int))) = true → (0 : Int) < (List.length (List.getD (if aloneErr l = 0 then layersW l else []) (Int.toNat (e6 - (1 : Int))) []))) ∧ (((((((List.length (List.getD (if aloneErr l = 0 then layersW l else []) (Int.toNat e6) [])) : Nat) : Int) == (0 : Int)) || (!(eachB l (List.getD (if aloneErr l = 0 then layersW l else []) (Int.toNat e6) []) false))) || ((decide (e6 > (0 : Int))) && (decide ((List.getD (List.getD (if aloneErr l = 0 then layersW l else []) (Int.toNat e6) []) (Int.toNat (0 : Int)) 0) ≤ (List.getD (List.getD (if aloneErr l = 0 then layersW l else []) (Int.toNat (e6 - (1 : Int))) []) (Int.toNat (0 : Int)) 0))))) = true →
                    (false = true ∧ (True))) ∧
                  (((((((List.length (List.getD (if aloneErr l = 0 then layersW l else []) (Int.toNat e6) [])) : Nat) : Int) == (0 : Int)) || (!(eachB l (List.getD (if aloneErr l = 0 then layersW l else []) (Int.toNat e6) []) false))) || ((decide (e6 > (0 : Int))) && (decide ((List.getD (List.getD (if aloneErr l = 0 then layersW l else []) (Int.toNat e6) []) (Int.toNat (0 : Int)) 0) ≤ (List.getD (List.getD (if aloneErr l = 0 then layersW l else []) (Int.toNat (e6 - (1 : Int))) []) (Int.toNat (0 : Int)) 0))))) = false →
                    (InK .i64 (e6 + (1 : Int))) ∧ (∃ d8 : (List (Int × Bool)) × Int × Int, ((l = l ∧ True ∧ True ∧ d6.2.1 = d8.2.1 ∧ (e6 + (1 : Int)) = d8.2.2 ∧ True) ∧ (((if aloneErr l = 0 then layersW l else []) = (if aloneErr l = 0 then layersW l else []) ∧ (List.isEmpty (if aloneErr l = 0 then layersW l else [])) = (List.isEmpty (if aloneErr l = 0 then layersW l else []))) ∧ (d6.1 = d8.1) ∧ True)) ∧ q3 d8)))) d60) ∧
            ((decide (d3.2.2 < (((List.length (if aloneErr l = 0 then layersW l else [])) : Nat) : Int))) = false →
              (l.length ≤ 1000000) ∧ ((d3.2.1 == (((List.length (refThr l)) : Nat) : Int)) = true → True) ∧ (((d3.2.1 == (((List.length (refThr l)) : Nat) : Int)) && true) = true ∧ (True)))) d30))))
def cx_law11_EyeLayers : Cx := ⟨[(1000063, (.pair (.i .i64) .bo))], [(20, s_ref11_Alone), (21, s_ref11_Threads), (12, s_law11_known), (14, s_law11_ints), (27, s_eye_Layers), (17, s_ref11_Same), (28, s_ref11_Layers), (29, s_ref11_In), (30, s_ref11_Each)], 167, [], 0, [], [], [], []⟩
def lp_law11_EyeLayers (l : List Int) : List (Nat × LoopAnn) := [(0, ⟨Unit, (List (Int × Bool)) × Int × Int, [0, 5, 7, 8, 9], fun e x => [.val (.list (.i .i64)) l, .dd 32 .out, .map 63, .val (.i .i64) x.2.1, .val (.i .i64) x.2.2], fun e x => [(32, .slot 5, .deep 22 (some 3) (.list (.i .i64)) (if aloneErr l = 0 then layersW l else []) (List.isEmpty (if aloneErr l = 0 then layersW l else [])) none), (63, .slot 7, .map (.i .i64) .bo x.1)]⟩),
  (2, ⟨Int, (List (Int × Bool)) × Int × Int, [0, 5, 7, 8, 9, 10], fun e x => [.val (.list (.i .i64)) l, .dd 32 .out, .map 63, .val (.i .i64) x.2.1, .val (.i .i64) e, .val (.i .i64) x.2.2], fun e x => [(32, .slot 5, .deep 22 (some 3) (.list (.i .i64)) (if aloneErr l = 0 then layersW l else []) (List.isEmpty (if aloneErr l = 0 then layersW l else [])) none), (63, .slot 7, .map (.i .i64) .bo x.1)]⟩)]
set_option maxRecDepth 100000 in
theorem vq_law11_EyeLayers (d : List Int) : gwp (cx_law11_EyeLayers) (lp_law11_EyeLayers d) c5 0 (gend [.tmp 2] (res_law11_EyeLayers d) (obs_law11_EyeLayers d)) (gstart 167 (AL.can al_law11_EyeLayers d)) = vc_law11_EyeLayers d := by kernel_rfl
abbrev Ok_law11_EyeLayers : Prop := OkC Tryd.prog 5 s_law11_EyeLayers
theorem mk_law11_EyeLayers (h : ∀ (l : List Int), (True) → vc_law11_EyeLayers l) : OkC Tryd.prog 5 s_law11_EyeLayers :=
  okC_vc fun5 mixed (C := cx_law11_EyeLayers) (V := fun (d : List Int) => vc_law11_EyeLayers d) ⟨(.cons ok_ref11_Alone (.cons ok_ref11_Threads (.cons ok_law11_known (.cons ok_law11_ints (.cons ok_eye_Layers (.cons ok_ref11_Same (.cons ok_ref11_Layers (.cons ok_ref11_In (.cons ok_ref11_Each .nil))))))))), XsOk.nil, ItsOk.nil⟩ (vq_law11_EyeLayers) fun d hp => h d hp
theorem ok_law11_EyeLayers : Ok_law11_EyeLayers := mk_law11_EyeLayers fun l _ => by
  simp only [vc_law11_EyeLayers, true_and, and_true, exists_const, decide_eq_true_eq, decide_eq_false_iff_not, beq_iff_eq, bne_iff_ne, ne_eq, beq_eq_false_iff_ne, bne_eq_false_iff_eq, Bool.not_eq_true', Bool.not_eq_false', gt_iff_lt, InK_i64]
  refine ⟨fun _ _ => by omega, fun h => trivial, fun h => ?_⟩
  simp only [Bool.or_eq_false_iff, decide_eq_false_iff_not, Bool.and_eq_false_iff, beq_eq_false_iff_ne] at h
  obtain ⟨h1, h2⟩ := h
  refine ⟨by omega, by omega, by omega, fun h => by simp at h, fun _ => ⟨fun he => ?_, fun he => ?_⟩⟩
  · simp [he]
  obtain ⟨h96, hval⟩ := aloneErr_zero he
  obtain ⟨f1, f2, f3, f4, f5⟩ := lay_facts hval
  have hrl := refThr_len l
  have hTl := thr_len l
  have hgl : (layersW l).length ≤ l.length := by
    have := layF_len (thr l)
    have e : layersW l = (layF (thr l)).1 := rfl
    rw [e]; omega
  simp only [he, if_true]
  generalize layersW l = g at *
  have e0 : (refThr l).drop (Int.toNat 0) = refThr l := rfl
  rw [e0, ← f1]
  refine ⟨fun _ => by omega, fun _ => ⟨by omega, by omega, by omega, by simp, fun x hx => ?_, fun r hr => by cases hr⟩, fun h => by simp at h, fun _ => ?_⟩
  · have := refThr_mem hx; omega
  refine ⟨([], 0, 0), ⟨⟨rfl, rfl⟩, rfl⟩, ?_⟩
  refine ⟨fun d => ∃ i : Nat, i ≤ g.length ∧ d.2.2 = i ∧ d.2.1 = ((g.take i).flatten.length : Nat) ∧ ∀ w, gq.aget (.i .i64) d.1 w false = decide (w ∈ (g.take i).flatten), fun d => g.length - d.2.2.toNat, ⟨0, Nat.zero_le _, rfl, rfl, fun w => rfl⟩, ?_⟩
  rintro ⟨m, many, _⟩ ⟨i, hi, rfl, hmany, hm⟩
  dsimp only at hmany hm ⊢
  refine ⟨fun hlt => ?_, fun hge => ?_⟩
  · have hlt : i < g.length := by omega
    obtain ⟨r1, r2, r3, r4⟩ := f2 _ (List.getElem_mem hlt)
    have hsucc : (g.take (i + 1)).flatten = (g.take i).flatten ++ g[i] := by rw [take_succ_eq hlt, List.flatten_append]; simp
    have hsub : (g.take (i + 1)).flatten.Sublist g.flatten := by
      have := List.take_append_drop (i + 1) g
      conv => rhs; rw [← this, List.flatten_append]
      exact List.sublist_append_left _ _
    have hnd := f4.sublist hsub
    have hsz := hsub.length_le
    rw [hsucc] at hnd hsz
    rw [List.length_append] at hsz
    refine ⟨(i : Int), (m, many, 0), ⟨⟨rfl, rfl, rfl⟩, rfl⟩, ?_⟩
    refine ⟨fun d => ∃ j : Nat, j ≤ g[i].length ∧ d.2.2 = j ∧ d.2.1 = ((g.take i).flatten.length + j : Nat) ∧ ∀ w, gq.aget (.i .i64) d.1 w false = decide (w ∈ (g.take i).flatten ++ g[i].take j), fun d => g[i].length - d.2.2.toNat, ⟨0, Nat.zero_le _, rfl, by simpa using hmany, by simpa using hm⟩, ?_⟩
    rintro ⟨m', many', _⟩ ⟨j, hj, rfl, hmany', hm'⟩
    dsimp only at hmany' hm' ⊢
    simp only [Int.toNat_natCast, getD_nat hlt]
    refine ⟨by omega, by omega, fun hjl => ?_, fun hjg => ?_⟩
    · have hjl : j < g[i].length := by omega
      have hw := r3 _ (List.getElem_mem hjl)
      have hin : inI g[i][j] 0 ((l.length : Int) - 1) = true := by simp only [inI, Bool.and_eq_true, decide_eq_true_eq]; omega
      have hge : decide (l.getD g[i][j].toNat 0 < 0) = false := by rw [decide_eq_false_iff_not]; omega
      have hag : gq.aget (.i .i64) m' g[i][j] false = false := by
        rw [hm', decide_eq_false_iff_not, List.mem_append]
        rintro (h | h)
        · exact (List.nodup_append.1 hnd).2.2 _ h _ (List.getElem_mem hjl) rfl
        · obtain ⟨k, hk, hk2⟩ := List.mem_take_iff_getElem.1 h
          have := (List.nodup_append.1 hnd).2.1
          have := List.pairwise_iff_getElem.1 this k j (by omega) hjl (by omega)
          exact this hk2
      have hasc : 0 < (j : Int) → ¬ g[i][j] ≤ g[i].getD ((j : Int) - 1).toNat 0 := fun hp => by
        have e : ((j : Int) - 1).toNat = j - 1 := by omega
        rw [e, getD_nat (show j - 1 < g[i].length by omega)]
        have := List.pairwise_iff_getElem.1 r2 (j - 1) j (by omega) hjl (by omega)
        omega
      have hasc2 : (decide (0 < (j : Int)) && decide (g[i][j] ≤ g[i].getD ((j : Int) - 1).toNat 0)) = false := and_dec hasc
      simp only [getD_nat hjl, hin, hge, hag, hasc2, Bool.not_true, Bool.or_self]
      refine ⟨by omega, by omega, by omega, by omega, by omega, fun _ => by omega, fun _ => by omega, fun _ _ => by omega, fun _ _ => by omega, fun _ _ => by omega, fun _ _ => by omega, fun _ _ => by omega, fun h => (by cases h), fun _ => ?_⟩
      refine ⟨by omega, by omega, (aput (.i .i64) m' g[i][j] true, many' + 1, (j : Int) + 1), ⟨⟨rfl, rfl⟩, rfl⟩, ⟨j + 1, by omega, by simp, by dsimp only; omega, fun w => ?_⟩, by dsimp only; omega⟩
      rw [aget_aput, hm', take_succ_eq hjl, ← List.append_assoc]
      exact mem_snocB _ _ _
    · have hj2 : j = g[i].length := by omega
      subst hj2
      have hne : g[i].length ≠ 0 := fun e => r1 (List.length_eq_zero_iff.1 e)
      have hz : ((g[i].length : Int) == 0) = false := by rw [beq_eq_false_iff_ne]; omega
      have hsm : ∀ x ∈ g[i], 0 ≤ x ∧ x < l.length := fun x hx => ⟨(r3 x hx).1, (r3 x hx).2.1⟩
      have hhd : 0 < (i : Int) → ¬ g[i].getD 0 0 ≤ (g.getD ((i : Int) - 1).toNat []).getD 0 0 := fun hp => by
        have e : ((i : Int) - 1).toNat = i - 1 := by omega
        rw [e, getD_nat (show i - 1 < g.length by omega)]
        have := List.pairwise_iff_getElem.1 f3 (i - 1) i (by omega) hlt (by omega)
        omega
      have hhd2 : (decide (0 < (i : Int)) && decide (g[i].getD (Int.toNat 0) 0 ≤ (g.getD ((i : Int) - 1).toNat []).getD (Int.toNat 0) 0)) = false := and_dec hhd
      have hlen1 : 0 < (i : Int) → (0 : Int) < ((g.getD ((i : Int) - 1).toNat []).length : Nat) := fun hp => by
        have e : ((i : Int) - 1).toNat = i - 1 := by omega
        rw [e, getD_nat (show i - 1 < g.length by omega)]
        have := (f2 _ (List.getElem_mem (show i - 1 < g.length by omega))).1
        have : g[i - 1].length ≠ 0 := fun e => this (List.length_eq_zero_iff.1 e)
        omega
      simp only [hz, r4, hhd2, Bool.not_true, Bool.or_self]
      refine ⟨by omega, by omega, fun _ => by omega, fun _ => by omega, fun _ => ⟨by omega, hsm⟩, fun _ _ => by omega, fun _ _ => by omega, fun _ _ => by omega, fun _ _ => by omega, fun _ _ => by omega, fun _ _ => by omega, fun _ _ => by omega, fun _ _ => by omega, fun _ hp => hlen1 hp, fun h => (by cases h), fun _ => ?_⟩
      refine ⟨by omega, (m', many', (i : Int) + 1), ⟨⟨rfl, rfl⟩, rfl⟩, ⟨i + 1, by omega, by simp, ?_, fun w => ?_⟩, by simp; omega⟩
      · dsimp only; rw [hsucc, List.length_append]; exact hmany'
      · dsimp only; rw [hm', hsucc, List.take_length]
  · have : i = g.length := by omega
    subst this
    rw [List.take_length] at hmany
    rw [hmany, f5]
    simp only [beq_self_eq_true, Bool.and_true]
    exact ⟨by omega, fun _ => trivial, trivial⟩
end Go.Proofs.Tryd