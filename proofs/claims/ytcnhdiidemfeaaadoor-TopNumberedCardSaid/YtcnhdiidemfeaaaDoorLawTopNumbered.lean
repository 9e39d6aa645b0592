/- griffe/griffetop.TopNumbered: it hands back true, whatever its arguments are, and leaves them as they were. -/
import Derived.Test.YtcnhdiidemfeaaaDoorTie
import Derived.Test.YtcnhdiidemfeaaaDoorCards
import Derived.Lib.SmallJoins
import Derived.Lay
import Derived.Stop.Joined
import Derived.Test.YtcnhdiidemfeaaaDoorN6
namespace Go.Proofs.YtcnhdiidemfeaaaDoor
open Go Go.V Go.ChangeShapes Go.WideShapes Go.ChangeAt Go.RowKit
theorem own : ownKnob Tryd.prog.godebug = none := by kernel_rfl
theorem laidOut : laidOutB Tryd.prog = true := by kernel_rfl
theorem tabs {W : World} (h : laidMetH Tryd.prog Rows.topNumberedRow.laid W) : Z4k W := by
  rw [MakeChecks.laidMetH_plain _ _ _ (by kernel_rfl)] at h
  obtain ⟨ps, ⟨g0, t0, cs0, f0, p0, q0, hg0, ht0, hv0, hd0, _⟩, _⟩ := h
  intro g cs hg
  match g, hg with
  | 0, hg =>
    obtain rfl := Option.some.inj hg
    exact Tryd.tab_heap hv0 (by kernel_rfl) hg0 (T := 114) (by kernel_rfl) ht0 (e := 5) (k := .u8) (n := 64) (by kernel_rfl) (by kernel_rfl) (by kernel_rfl) (by kernel_rfl) hd0
  | _ + 1, hg => cases hg
set_option maxRecDepth 100000 in
theorem topNumbered_lifted (os : Os) (started : os.Started) (H : Type) (enc : TypeId × Value -> H) :
    ReturnsInHanded {} Tryd.checked os 3 .any (λw args => (Rows.topNumberedSpec.pre enc Tryd.prog Tryd.f3 Rows.topNumberedRow.domain false w args /\ laidMetH Tryd.prog Rows.topNumberedRow.laid w) /\ sizedMet enc Tryd.prog Tryd.f3 (OpenSpec.ofChange Rows.topNumberedSpec) false w args)
      (Rows.topNumberedSpec.post enc Tryd.prog Tryd.f3 false true false false) := by
  refine returnsInHanded_of_change_and (C := Tryd.checked) (X := λw _ => laidMetH Tryd.prog Rows.topNumberedRow.laid w) (λ_ _ _ hh h => h.of_heap hh) own started (by kernel_rfl) Tryd.func3
    (ChangeSpec.witness_shaped (enc := enc) (C := Tryd.checked) (os := os) (X := λw _ => laidMetH Tryd.prog Rows.topNumberedRow.laid w) false (World.laidAll Tryd.prog os Rows.topNumberedRow.laid) #[.int .u8 (0), .slice none 0 0, .slice none 0 0] 8 (World.laidAll_os _ _ _)
      (World.shaped_of_ZipB (by kernel_rfl) (by kernel_rfl)) (by kernel_rfl) (by kernel_rfl) (by kernel_rfl)
      (by rw [MakeChecks.laidMetH_plain _ _ _ (by kernel_rfl)]; exact laidMet_laidAll _ (by kernel_rfl) (by kernel_rfl))) ?_
  intro W base args ds gs before hval hW _ _ _ _
  have hW' := hW
  obtain ⟨p, q, hA, hV, rfl, _, _⟩ := hW
  have hds : ds.length = 3 := RG hA
  have hs : Rows.topNumberedSpec.fn H ds = { results := [.lit (.bool true)], args := ds } := match ds, hds with | [_, _, _], _ => rfl
  refine Calls.mono (Q13 (tabs (by assumption)) Tryd.ok_top_TopNumbered Tryd.fun3.enterable (ks := [(.i .u8), (.list (.i .u16)), (.list (.i .u8))]) (by kernel_rfl) (λj t v h1 h2 => hval j t v (by simpa using h1) (by simpa using h2)) hA (λx hx => ⟨_, rfl, Tryd.boundPre_of hx⟩))
    (λe W' ⟨he, hb⟩ => ⟨_, he, Q2q (tb := 4) laidOut (by kernel_rfl) rfl rfl (by kernel_rfl) hs hW' hb⟩)
theorem topNumbered_holds : Rows.TopNumberedSaid :=
  OpenClaim.holds_of_wide 3 Tryd.f3 rfl rfl rfl rfl rfl rfl rfl ⟨rfl, rfl, rfl, rfl, rfl⟩ rfl rfl rfl rfl rfl (by kernel_rfl) Tryd.func3 (by kernel_rfl)
    (of_decide_eq_true (by kernel_rfl)) (by unfold Func.isWrapper; first | (rw [if_pos (by decide +kernel)]; kernel_rfl) | (rw [if_neg (by decide +kernel)]; exact ⟨rfl, rfl⟩))
    (λos started H enc _ => topNumbered_lifted os started H enc)
theorem topNumbered_card_holds : Rows.TopNumberedCardSaid :=
  Claim7.holds_tied_plain_at .later [] [.data] true (true, "ddd5768321e9a3fd3d0b8545b87fc831cc22a0f03454a0f1ea9a95b5e9c55921") false topNumbered_holds (λ_ h => by cases h) (by kernel_rfl) (λ_ h => by cases h) topNumbered_row_tie rfl ⟨rfl, rfl⟩ (by kernel_rfl) rfl
    (λf fn hf hfn => by
      obtain rfl : f = 3 := Option.some.inj ((show Tryd.prog.funcNamed "griffe/griffetop.TopNumbered" = some 3 by kernel_rfl).symm.trans hf) |>.symm
      obtain rfl : fn = Tryd.f3 := (Option.some.inj (Tryd.func3.symm.trans hfn)).symm
      exact ⟨by kernel_rfl, λj t ht => by
        rw [Tryd.params3] at ht
        have hm : t ∈ [5, 22, 23] := by simpa using Array.mem_of_getElem? ht
        have hall : ([5, 22, 23].all λu => !Tryd.prog.wantsStandIn u) = true := by kernel_rfl
        exact (show Tryd.prog.wantsStandIn t = false by simpa using List.all_eq_true.1 hall t hm)⟩)
    (by kernel_rfl)
#print axioms topNumbered_card_holds
end Go.Proofs.YtcnhdiidemfeaaaDoor