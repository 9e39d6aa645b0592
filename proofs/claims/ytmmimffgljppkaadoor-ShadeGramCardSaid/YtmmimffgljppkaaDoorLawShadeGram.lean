/- griffe/griffelaw09.ShadeGram: it hands back true, whatever its arguments are, and leaves them as they were. -/
import Derived.Test.YtmmimffgljppkaaDoorTie
import Derived.Test.YtmmimffgljppkaaDoorCards
import Derived.Lib.SmallJoins
import Derived.Lay
import Derived.Stop.Joined
import Derived.Test.YtmmimffgljppkaaDoorR6
namespace Go.Proofs.YtmmimffgljppkaaDoor
open Go Go.V Go.ChangeShapes Go.WideShapes Go.ChangeAt Go.RowKit
theorem own : ownKnob Tryd.prog.godebug = none := by kernel_rfl
theorem laidOut : laidOutB Tryd.prog = true := by kernel_rfl
theorem tabs {W : World} (h : laidMetH Tryd.prog Rows.shadeGramRow.laid W) : Tabs W := by
  rw [MakeChecks.laidMetH_plain _ _ _ (by kernel_rfl)] at h
  obtain ⟨ps, ⟨g0, t0, cs0, f0, p0, q0, hg0, ht0, hv0, hd0, ⟨g1, t1, cs1, f1, p1, q1, hg1, ht1, hv1, hd1, _⟩, _⟩, _⟩ := h
  intro g cs hg
  match g, hg with
  | 0, hg =>
    obtain rfl := Option.some.inj hg
    exact Tryd.tab_heap hv0 (by kernel_rfl) hg0 (T := 131) (by kernel_rfl) ht0 (e := 5) (k := .u8) (n := 32) (by kernel_rfl) (by kernel_rfl) (by kernel_rfl) (by kernel_rfl) hd0
  | 1, hg =>
    obtain rfl := Option.some.inj hg
    exact Tryd.tab_heap hv1 (by kernel_rfl) hg1 (T := 132) (by kernel_rfl) ht1 (e := 5) (k := .u8) (n := 64) (by kernel_rfl) (by kernel_rfl) (by kernel_rfl) (by kernel_rfl) hd1
  | _ + 2, hg => cases hg
set_option maxRecDepth 100000 in
theorem shadeGram_lifted (os : Os) (started : os.Started) (H : Type) (enc : TypeId × Value → H) :
    ReturnsInHanded {} Tryd.checked os 3 .any (fun w args => (Rows.shadeGramSpec.pre enc Tryd.prog Tryd.f3 Rows.shadeGramRow.domain false w args ∧ laidMetH Tryd.prog Rows.shadeGramRow.laid w) ∧ sizedMet enc Tryd.prog Tryd.f3 (OpenSpec.ofChange Rows.shadeGramSpec) false w args)
      (Rows.shadeGramSpec.post enc Tryd.prog Tryd.f3 false true false false) := by
  refine returnsInHanded_of_change_and (C := Tryd.checked) (X := fun w _ => laidMetH Tryd.prog Rows.shadeGramRow.laid w) (fun _ _ _ hh h => h.of_heap hh) own started (by kernel_rfl) Tryd.func3
    (ChangeSpec.witness_shaped (enc := enc) (C := Tryd.checked) (os := os) (X := fun w _ => laidMetH Tryd.prog Rows.shadeGramRow.laid w) false (World.laidAll Tryd.prog os Rows.shadeGramRow.laid) #[.agg #[.int .u8 (0), .int .u8 (0), .slice none 0 0, .slice none 0 0], .int .u8 (0), .int .u8 (0)] 8 (World.laidAll_os _ _ _)
      (World.shaped_of_ZipB (by kernel_rfl) (by kernel_rfl)) (by kernel_rfl) (by kernel_rfl) (by kernel_rfl)
      (by rw [MakeChecks.laidMetH_plain _ _ _ (by kernel_rfl)]; exact laidMet_laidAll _ (by kernel_rfl) (by kernel_rfl))) ?_
  intro W base args ds gs before hval hW _ _ _ _
  have hW' := hW
  obtain ⟨p, q, hA, hV, rfl, _, _⟩ := hW
  have hds : ds.length = 3 := trodAll_len hA
  have hs : Rows.shadeGramSpec.fn H ds = { results := [.lit (.bool true)], args := ds } := match ds, hds with | [_, _, _], _ => rfl
  refine Calls.mono (law_calls (tabs (by assumption)) Tryd.ok_law09_ShadeGram Tryd.fun3.enterable (ks := [(.pair (.i .u8) (.pair (.i .u8) (.pair (.list (.pair (.i .u8) (.i .u8))) (.list (.i .i8))))), (.i .u8), (.i .u8)]) (by kernel_rfl) (fun j t v h1 h2 => hval j t v (by simpa using h1) (by simpa using h2)) hA (fun x hx => ⟨_, rfl, Tryd.gramPre_of hx⟩))
    (fun e W' ⟨he, hb⟩ => ⟨_, he, post_true (tb := 4) laidOut (by kernel_rfl) rfl rfl (by kernel_rfl) hs hW' hb⟩)
theorem shadeGram_holds : Rows.ShadeGramSaid :=
  OpenClaim.holds_of_wide 3 Tryd.f3 rfl rfl rfl rfl rfl rfl rfl ⟨rfl, rfl, rfl, rfl, rfl⟩ rfl rfl rfl rfl rfl (by kernel_rfl) Tryd.func3 (by kernel_rfl)
    (of_decide_eq_true (by kernel_rfl)) (by unfold Func.isWrapper; first | (rw [if_pos (by decide +kernel)]; kernel_rfl) | (rw [if_neg (by decide +kernel)]; exact ⟨rfl, rfl⟩))
    (fun os started H enc _ => shadeGram_lifted os started H enc)
theorem shadeGram_card_holds : Rows.ShadeGramCardSaid :=
  Claim7.holds_tied_plain_at .later [] [.data, .data] true (true, "637b2fa21f717f89c80190b321c5a2717d3f48c729300c64275c881598f95926") false shadeGram_holds (fun _ h => by cases h) (by kernel_rfl) (fun _ h => by cases h) shadeGram_row_tie rfl ⟨rfl, rfl⟩ (by kernel_rfl) rfl
    (fun f fn hf hfn => by
      obtain rfl : f = 3 := Option.some.inj ((show Tryd.prog.funcNamed "griffe/griffelaw09.ShadeGram" = some 3 by kernel_rfl).symm.trans hf) |>.symm
      obtain rfl : fn = Tryd.f3 := (Option.some.inj (Tryd.func3.symm.trans hfn)).symm
      exact ⟨by kernel_rfl, fun j t ht => by
        rw [Tryd.params3] at ht
        have hm : t ∈ [25, 5, 5] := by simpa using Array.mem_of_getElem? ht
        have hall : ([25, 5, 5].all fun u => !Tryd.prog.wantsStandIn u) = true := by kernel_rfl
        exact (show Tryd.prog.wantsStandIn t = false by simpa using List.all_eq_true.1 hall t hm)⟩)
    (by kernel_rfl)
#print axioms shadeGram_card_holds
end Go.Proofs.YtmmimffgljppkaaDoor