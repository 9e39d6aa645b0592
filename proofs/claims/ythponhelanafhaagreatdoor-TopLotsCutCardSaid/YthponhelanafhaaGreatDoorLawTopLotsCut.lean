/- griffe/griffetop.TopLotsCut: it hands back true, whatever its arguments are, and leaves them as they were. -/
import Derived.Test.YthponhelanafhaaGreatDoorTie
import Derived.Test.YthponhelanafhaaGreatDoorCards
import Derived.Lib.SmallJoins
import Derived.Lay
import Derived.Stop.Joined
import Derived.Test.YthponhelanafhaaGreatDoorR6
namespace Go.Proofs.YthponhelanafhaaGreatDoor
open Go Go.V Go.ChangeShapes Go.WideShapes Go.ChangeAt Go.RowKit
theorem own : ownKnob Tryz.prog.godebug = none := by kernel_rfl
theorem laidOut : laidOutB Tryz.prog = true := by kernel_rfl
theorem tabs {W : World} (h : laidMetH Tryz.prog Rows.topLotsCutRow.laid W) : Z3u W := by
  rw [MakeChecks.laidMetH_plain _ _ _ (by kernel_rfl)] at h
  obtain ⟨ps, ⟨g0, t0, cs0, f0, p0, q0, hg0, ht0, hv0, hd0, ⟨g1, t1, cs1, f1, p1, q1, hg1, ht1, hv1, hd1, _⟩, _⟩, _⟩ := h
  intro g cs hg
  match g, hg with
  | 0, hg =>
    obtain rfl := Option.some.inj hg
    exact Tryz.tab_heap hv0 (by kernel_rfl) hg0 (T := 185) (by kernel_rfl) ht0 (e := 5) (k := .u8) (n := 32) (by kernel_rfl) (by kernel_rfl) (by kernel_rfl) (by kernel_rfl) hd0
  | 1, hg =>
    obtain rfl := Option.some.inj hg
    exact Tryz.tab_heap hv1 (by kernel_rfl) hg1 (T := 186) (by kernel_rfl) ht1 (e := 5) (k := .u8) (n := 64) (by kernel_rfl) (by kernel_rfl) (by kernel_rfl) (by kernel_rfl) hd1
  | _ + 2, hg => cases hg
set_option maxRecDepth 100000 in
theorem topLotsCut_lifted (os : Os) (started : os.Started) (H : Type) (enc : TypeId × Value → H) :
    ReturnsInHanded {} Tryz.checked os 4 .any (fun w args => (Rows.topLotsCutSpec.pre enc Tryz.prog Tryz.f4 Rows.topLotsCutRow.domain false w args ∧ laidMetH Tryz.prog Rows.topLotsCutRow.laid w) ∧ sizedMet enc Tryz.prog Tryz.f4 (OpenSpec.ofChange Rows.topLotsCutSpec) false w args)
      (Rows.topLotsCutSpec.post enc Tryz.prog Tryz.f4 false true false false) := by
  refine returnsInHanded_of_change_and (C := Tryz.checked) (X := fun w _ => laidMetH Tryz.prog Rows.topLotsCutRow.laid w) (fun _ _ _ hh h => h.of_heap hh) own started (by kernel_rfl) Tryz.func4
    (ChangeSpec.witness_shaped (enc := enc) (C := Tryz.checked) (os := os) (X := fun w _ => laidMetH Tryz.prog Rows.topLotsCutRow.laid w) false (World.laidAll Tryz.prog os Rows.topLotsCutRow.laid) #[.agg #[.slice none 0 0, .int .u8 (0), .slice none 0 0]] 8 (World.laidAll_os _ _ _)
      (World.shaped_of_ZipB (by kernel_rfl) (by kernel_rfl)) (by kernel_rfl) (by kernel_rfl) (by kernel_rfl)
      (by rw [MakeChecks.laidMetH_plain _ _ _ (by kernel_rfl)]; exact laidMet_laidAll _ (by kernel_rfl) (by kernel_rfl))) ?_
  intro W base args ds gs before hval hW _ _ _ _
  have hW' := hW
  obtain ⟨p, q, hA, hV, rfl, _, _⟩ := hW
  have hds : ds.length = 1 := Ti hA
  have hs : Rows.topLotsCutSpec.fn H ds = { results := [.lit (.bool true)], args := ds } := match ds, hds with | [_], _ => rfl
  refine Calls.mono (Q31 (tabs (by assumption)) Tryz.ok_top_TopLotsCut Tryz.fun4.enterable (ks := [(.pair (.list (.pair (.i .u8) (.pair (.i .u8) (.pair (.i .u8) (.i .u8))))) (.pair (.i .u8) (.list (.i .u8))))]) (by kernel_rfl) (fun j t v h1 h2 => hval j t v (by simpa using h1) (by simpa using h2)) hA (fun x hx => ⟨_, rfl, Tryz.dyePre_of hx⟩))
    (fun e W' ⟨he, hb⟩ => ⟨_, he, Q21 (tb := 4) laidOut (by kernel_rfl) rfl rfl (by kernel_rfl) hs hW' hb⟩)
theorem topLotsCut_holds : Rows.TopLotsCutSaid :=
  OpenClaim.holds_of_wide 4 Tryz.f4 rfl rfl rfl rfl rfl rfl rfl ⟨rfl, rfl, rfl, rfl, rfl⟩ rfl rfl rfl rfl rfl (by kernel_rfl) Tryz.func4 (by kernel_rfl)
    (of_decide_eq_true (by kernel_rfl)) (by unfold Func.isWrapper; first | (rw [if_pos (by decide +kernel)]; kernel_rfl) | (rw [if_neg (by decide +kernel)]; exact ⟨rfl, rfl⟩))
    (fun os started H enc _ => topLotsCut_lifted os started H enc)
theorem topLotsCut_card_holds : Rows.TopLotsCutCardSaid :=
  Claim7.holds_tied_plain_at .later [] [.data, .data] true (true, "eb5fd9c99290e6a9f4945777d4bff1d726cddd640526fc614303793eb234f2ff") false topLotsCut_holds (fun _ h => by cases h) (by kernel_rfl) (fun _ h => by cases h) topLotsCut_row_tie rfl ⟨rfl, rfl⟩ (by kernel_rfl) rfl
    (fun f fn hf hfn => by
      obtain rfl : f = 4 := Option.some.inj ((show Tryz.prog.funcNamed "griffe/griffetop.TopLotsCut" = some 4 by kernel_rfl).symm.trans hf) |>.symm
      obtain rfl : fn = Tryz.f4 := (Option.some.inj (Tryz.func4.symm.trans hfn)).symm
      exact ⟨by kernel_rfl, fun j t ht => by
        rw [Tryz.params4] at ht
        have hm : t ∈ [25] := by simpa using Array.mem_of_getElem? ht
        have hall : ([25].all fun u => !Tryz.prog.wantsStandIn u) = true := by kernel_rfl
        exact (show Tryz.prog.wantsStandIn t = false by simpa using List.all_eq_true.1 hall t hm)⟩)
    (by kernel_rfl)
#print axioms topLotsCut_card_holds
end Go.Proofs.YthponhelanafhaaGreatDoor