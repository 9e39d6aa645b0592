/- griffe/griffetop.TopBound: it hands back true, whatever its arguments are, and leaves them as they were. -/
import Derived.Test.YtdjglebmapcdmaaGreatDoorTie
import Derived.Test.YtdjglebmapcdmaaGreatDoorCards
import Derived.Lib.SmallJoins
import Derived.Lay
import Derived.Stop.Joined
import Derived.Test.YtdjglebmapcdmaaGreatDoorB7
namespace Go.Proofs.YtdjglebmapcdmaaGreatDoor
open Go Go.V Go.ChangeShapes Go.WideShapes Go.ChangeAt Go.RowKit
theorem own : ownKnob Tryz.prog.godebug = none := by kernel_rfl
theorem laidOut : laidOutB Tryz.prog = true := by kernel_rfl
theorem tabs {W : World} (h : laidMetH Tryz.prog Rows.topBoundRow.laid W) : Z9k W := by
  rw [MakeChecks.laidMetH_plain _ _ _ (by kernel_rfl)] at h
  obtain ⟨ps, ⟨g0, t0, cs0, f0, p0, q0, hg0, ht0, hv0, hd0, ⟨g1, t1, cs1, f1, p1, q1, hg1, ht1, hv1, hd1, _⟩, _⟩, _⟩ := h
  intro g cs hg
  match g, hg with
  | 0, hg =>
    obtain rfl := Option.some.inj hg
    exact Tryz.tab_heap hv0 (by kernel_rfl) hg0 (T := 146) (by kernel_rfl) ht0 (e := 5) (k := .u8) (n := 32) (by kernel_rfl) (by kernel_rfl) (by kernel_rfl) (by kernel_rfl) hd0
  | 1, hg =>
    obtain rfl := Option.some.inj hg
    exact Tryz.tab_heap hv1 (by kernel_rfl) hg1 (T := 147) (by kernel_rfl) ht1 (e := 5) (k := .u8) (n := 64) (by kernel_rfl) (by kernel_rfl) (by kernel_rfl) (by kernel_rfl) hd1
  | _ + 2, hg => cases hg
set_option maxRecDepth 100000 in
theorem topBound_lifted (os : Os) (started : os.Started) (H : Type) (enc : TypeId × Value -> H) :
    ReturnsInHanded {} Tryz.checked os 3 .any (λw args => (Rows.topBoundSpec.pre enc Tryz.prog Tryz.f3 Rows.topBoundRow.domain false w args /\ laidMetH Tryz.prog Rows.topBoundRow.laid w) /\ sizedMet enc Tryz.prog Tryz.f3 (OpenSpec.ofChange Rows.topBoundSpec) false w args)
      (Rows.topBoundSpec.post enc Tryz.prog Tryz.f3 false true false false) := by
  refine returnsInHanded_of_change_and (C := Tryz.checked) (X := λw _ => laidMetH Tryz.prog Rows.topBoundRow.laid w) (λ_ _ _ hh h => h.of_heap hh) own started (by kernel_rfl) Tryz.func3
    (ChangeSpec.witness_shaped (enc := enc) (C := Tryz.checked) (os := os) (X := λw _ => laidMetH Tryz.prog Rows.topBoundRow.laid w) false (World.laidAll Tryz.prog os Rows.topBoundRow.laid) #[.int .u8 (0), .slice none 0 0, .slice none 0 0] 8 (World.laidAll_os _ _ _)
      (World.shaped_of_ZipB (by kernel_rfl) (by kernel_rfl)) (by kernel_rfl) (by kernel_rfl) (by kernel_rfl)
      (by rw [MakeChecks.laidMetH_plain _ _ _ (by kernel_rfl)]; exact laidMet_laidAll _ (by kernel_rfl) (by kernel_rfl))) ?_
  intro W base args ds gs before hval hW _ _ _ _
  have hW' := hW
  obtain ⟨p, q, hA, hV, rfl, _, _⟩ := hW
  have hds : ds.length = 3 := Al hA
  have hs : Rows.topBoundSpec.fn H ds = { results := [.lit (.bool true)], args := ds } := match ds, hds with | [_, _, _], _ => rfl
  refine Calls.mono (Q98 (tabs (by assumption)) Tryz.ok_top_TopBound Tryz.fun3.enterable (ks := [(.i .u8), (.list (.i .u16)), (.list (.i .u8))]) (by kernel_rfl) (λj t v h1 h2 => hval j t v (by simpa using h1) (by simpa using h2)) hA (λx hx => ⟨_, rfl, Tryz.boundPre_of hx⟩))
    (λe W' ⟨he, hb⟩ => ⟨_, he, Q9l (tb := 4) laidOut (by kernel_rfl) rfl rfl (by kernel_rfl) hs hW' hb⟩)
theorem topBound_holds : Rows.TopBoundSaid :=
  OpenClaim.holds_of_wide 3 Tryz.f3 rfl rfl rfl rfl rfl rfl rfl ⟨rfl, rfl, rfl, rfl, rfl⟩ rfl rfl rfl rfl rfl (by kernel_rfl) Tryz.func3 (by kernel_rfl)
    (of_decide_eq_true (by kernel_rfl)) (by unfold Func.isWrapper; first | (rw [if_pos (by decide +kernel)]; kernel_rfl) | (rw [if_neg (by decide +kernel)]; exact ⟨rfl, rfl⟩))
    (λos started H enc _ => topBound_lifted os started H enc)
theorem topBound_card_holds : Rows.TopBoundCardSaid :=
  Claim7.holds_tied_plain_at .later [] [.data, .data] true (true, "b03a3b53fca74d9725d54c2744b561c9bff70cf0d1385ca72bf449b81f85b806") false topBound_holds (λ_ h => by cases h) (by kernel_rfl) (λ_ h => by cases h) topBound_row_tie rfl ⟨rfl, rfl⟩ (by kernel_rfl) rfl
    (λf fn hf hfn => by
      obtain rfl : f = 3 := Option.some.inj ((show Tryz.prog.funcNamed "griffe/griffetop.TopBound" = some 3 by kernel_rfl).symm.trans hf) |>.symm
      obtain rfl : fn = Tryz.f3 := (Option.some.inj (Tryz.func3.symm.trans hfn)).symm
      exact ⟨by kernel_rfl, λj t ht => by
        rw [Tryz.params3] at ht
        have hm : t ∈ [5, 22, 23] := by simpa using Array.mem_of_getElem? ht
        have hall : ([5, 22, 23].all λu => !Tryz.prog.wantsStandIn u) = true := by kernel_rfl
        exact (show Tryz.prog.wantsStandIn t = false by simpa using List.all_eq_true.1 hall t hm)⟩)
    (by kernel_rfl)
#print axioms topBound_card_holds
end Go.Proofs.YtdjglebmapcdmaaGreatDoor