/- griffe/griffetop.TopCopiedChain: it hands back true, whatever its arguments are, and leaves them as they were. -/
import Derived.Test.YtmcfcleofjngmaaGreatDoorTie
import Derived.Test.YtmcfcleofjngmaaGreatDoorCards
import Derived.Lib.SmallJoins
import Derived.Lay
import Derived.Stop.Joined
import Derived.Test.YtmcfcleofjngmaaGreatDoorM8
namespace Go.Proofs.YtmcfcleofjngmaaGreatDoor
open Go Go.V Go.ChangeShapes Go.WideShapes Go.ChangeAt Go.RowKit
theorem own : ownKnob Tryz.prog.godebug = none := by kernel_rfl
theorem laidOut : laidOutB Tryz.prog = true := by kernel_rfl
theorem tabs {W : World} (h : laidMetH Tryz.prog Rows.topCopiedChainRow.laid W) : J1s W := by
  rw [MakeChecks.laidMetH_plain _ _ _ (by kernel_rfl)] at h
  obtain ⟨ps, ⟨g0, t0, cs0, f0, p0, q0, hg0, ht0, hv0, hd0, _⟩, _⟩ := h
  intro g cs hg
  match g, hg with
  | 0, hg =>
    obtain rfl := Option.some.inj hg
    exact Tryz.tab_heap hv0 (by kernel_rfl) hg0 (T := 203) (by kernel_rfl) ht0 (e := 5) (k := .u8) (n := 64) (by kernel_rfl) (by kernel_rfl) (by kernel_rfl) (by kernel_rfl) hd0
  | _ + 1, hg => cases hg
set_option maxRecDepth 100000 in
theorem topCopiedChain_lifted (os : Os) (started : os.Started) (H : Type) (enc : TypeId × Value -> H) :
    ReturnsInHanded {} Tryz.checked os 4 .any (λw args => (Rows.topCopiedChainSpec.pre enc Tryz.prog Tryz.f4 Rows.topCopiedChainRow.domain false w args /\ laidMetH Tryz.prog Rows.topCopiedChainRow.laid w) /\ sizedMet enc Tryz.prog Tryz.f4 (OpenSpec.ofChange Rows.topCopiedChainSpec) false w args)
      (Rows.topCopiedChainSpec.post enc Tryz.prog Tryz.f4 false true false false) := by
  refine returnsInHanded_of_change_and (C := Tryz.checked) (X := λw _ => laidMetH Tryz.prog Rows.topCopiedChainRow.laid w) (λ_ _ _ hh h => h.of_heap hh) own started (by kernel_rfl) Tryz.func4
    (ChangeSpec.witness_shaped (enc := enc) (C := Tryz.checked) (os := os) (X := λw _ => laidMetH Tryz.prog Rows.topCopiedChainRow.laid w) false (World.laidAll Tryz.prog os Rows.topCopiedChainRow.laid) #[.int .u8 (0), .slice none 0 0, .slice none 0 0] 8 (World.laidAll_os _ _ _)
      (World.shaped_of_ZipB (by kernel_rfl) (by kernel_rfl)) (by kernel_rfl) (by kernel_rfl) (by kernel_rfl)
      (by rw [MakeChecks.laidMetH_plain _ _ _ (by kernel_rfl)]; exact laidMet_laidAll _ (by kernel_rfl) (by kernel_rfl))) ?_
  intro W base args ds gs before hval hW _ _ _ _
  have hW' := hW
  obtain ⟨p, q, hA, hV, rfl, _, _⟩ := hW
  have hds : ds.length = 3 := SW hA
  have hs : Rows.topCopiedChainSpec.fn H ds = { results := [.lit (.bool true)], args := ds } := match ds, hds with | [_, _, _], _ => rfl
  refine Calls.mono (Q8l (tabs (by assumption)) Tryz.ok_top_TopCopiedChain Tryz.fun4.enterable (ks := [(.i .u8), (.list (.i .u16)), (.list (.list (.i .u8)))]) (by kernel_rfl) (λj t v h1 h2 => hval j t v (by simpa using h1) (by simpa using h2)) hA (λx hx => ⟨_, rfl, Tryz.cchPre_of hx⟩))
    (λe W' ⟨he, hb⟩ => ⟨_, he, Q7u (tb := 4) laidOut (by kernel_rfl) rfl rfl (by kernel_rfl) hs hW' hb⟩)
theorem topCopiedChain_holds : Rows.TopCopiedChainSaid :=
  OpenClaim.holds_of_wide 4 Tryz.f4 rfl rfl rfl rfl rfl rfl rfl ⟨rfl, rfl, rfl, rfl, rfl⟩ rfl rfl rfl rfl rfl (by kernel_rfl) Tryz.func4 (by kernel_rfl)
    (of_decide_eq_true (by kernel_rfl)) (by unfold Func.isWrapper; first | (rw [if_pos (by decide +kernel)]; kernel_rfl) | (rw [if_neg (by decide +kernel)]; exact ⟨rfl, rfl⟩))
    (λos started H enc _ => topCopiedChain_lifted os started H enc)
theorem topCopiedChain_card_holds : Rows.TopCopiedChainCardSaid :=
  Claim7.holds_tied_plain_at .later [] [.data] true (true, "64301b6da3f1bd20bad54c75bfb563892b1935773119c061c9fa2e8cdef16750") false topCopiedChain_holds (λ_ h => by cases h) (by kernel_rfl) (λ_ h => by cases h) topCopiedChain_row_tie rfl ⟨rfl, rfl⟩ (by kernel_rfl) rfl
    (λf fn hf hfn => by
      obtain rfl : f = 4 := Option.some.inj ((show Tryz.prog.funcNamed "griffe/griffetop.TopCopiedChain" = some 4 by kernel_rfl).symm.trans hf) |>.symm
      obtain rfl : fn = Tryz.f4 := (Option.some.inj (Tryz.func4.symm.trans hfn)).symm
      exact ⟨by kernel_rfl, λj t ht => by
        rw [Tryz.params4] at ht
        have hm : t ∈ [5, 22, 59] := by simpa using Array.mem_of_getElem? ht
        have hall : ([5, 22, 59].all λu => !Tryz.prog.wantsStandIn u) = true := by kernel_rfl
        exact (show Tryz.prog.wantsStandIn t = false by simpa using List.all_eq_true.1 hall t hm)⟩)
    (by kernel_rfl)
#print axioms topCopiedChain_card_holds
end Go.Proofs.YtmcfcleofjngmaaGreatDoor