/- griffe/griffelaw11.EyeTrue: it hands back true, whatever its arguments are, and leaves them as they were. -/
import Derived.Test.YtglndbfamncmaaaDoorTie
import Derived.Test.YtglndbfamncmaaaDoorCards
import Derived.Lib.SmallJoins
import Derived.Lay
import Derived.Stop.Joined
import Derived.Test.YtglndbfamncmaaaDoorT6
namespace Go.Proofs.YtglndbfamncmaaaDoor
open Go Go.V Go.ChangeShapes Go.WideShapes Go.ChangeAt Go.RowKit
theorem own : ownKnob Tryd.prog.godebug = none := by kernel_rfl
theorem laidOut : laidOutB Tryd.prog = true := by kernel_rfl
set_option maxRecDepth 100000 in
theorem eyeTrue_lifted (os : Os) (started : os.Started) (H : Type) (enc : TypeId × Value -> H) :
    ReturnsInHanded {} Tryd.checked os 3 .any (λw args => (Rows.eyeTrueSpec.pre enc Tryd.prog Tryd.f3 Rows.eyeTrueRow.domain false w args /\ laidMetH Tryd.prog Rows.eyeTrueRow.laid w) /\ sizedMet enc Tryd.prog Tryd.f3 (OpenSpec.ofChange Rows.eyeTrueSpec) false w args)
      (Rows.eyeTrueSpec.post enc Tryd.prog Tryd.f3 false true false false) := by
  refine returnsInHanded_of_change_and (C := Tryd.checked) (X := λw _ => laidMetH Tryd.prog Rows.eyeTrueRow.laid w) (λ_ _ _ hh h => h.of_heap hh) own started (by kernel_rfl) Tryd.func3
    (ChangeSpec.witness_shaped (enc := enc) (C := Tryd.checked) (os := os) (X := λw _ => laidMetH Tryd.prog Rows.eyeTrueRow.laid w) false (World.laidAll Tryd.prog os Rows.eyeTrueRow.laid) #[.agg #[.int .u8 (0), .slice none 0 0, .slice none 0 0, .slice none 0 0], .slice none 0 0] 8 (World.laidAll_os _ _ _)
      (World.shaped_of_ZipB (by kernel_rfl) (by kernel_rfl)) (by kernel_rfl) (by kernel_rfl) (by kernel_rfl)
      (by rw [MakeChecks.laidMetH_plain _ _ _ (by kernel_rfl)]; exact laidMet_laidAll _ (by kernel_rfl) (by kernel_rfl))) ?_
  intro W base args ds gs before hval hW _ _ _ _
  have hW' := hW
  obtain ⟨p, q, hA, hV, rfl, _, _⟩ := hW
  have hds : ds.length = 2 := Hy hA
  have hs : Rows.eyeTrueSpec.fn H ds = { results := [.lit (.bool true)], args := ds } := match ds, hds with | [_, _], _ => rfl
  refine Calls.mono (IQ (λ_ _ h => by cases h) Tryd.ok_law11_EyeTrue Tryd.fun3.enterable (ks := [(.pair (.i .u8) (.pair (.list (.i .u8)) (.pair (.list (.i .u16)) (.list (.i .u8))))), (.list (.pair (.i .u8) (.i .u8)))]) (by kernel_rfl) (λj t v h1 h2 => hval j t v (by simpa using h1) (by simpa using h2)) hA (λx hx => ⟨_, rfl, Tryd.truePre_of hx⟩))
    (λe W' ⟨he, hb⟩ => ⟨_, he, Iv (tb := 4) laidOut (by kernel_rfl) rfl rfl (by kernel_rfl) hs hW' hb⟩)
theorem eyeTrue_holds : Rows.EyeTrueSaid :=
  OpenClaim.holds_of_wide 3 Tryd.f3 rfl rfl rfl rfl rfl rfl rfl ⟨rfl, rfl, rfl, rfl, rfl⟩ rfl rfl rfl rfl rfl (by kernel_rfl) Tryd.func3 (by kernel_rfl)
    (of_decide_eq_true (by kernel_rfl)) (by unfold Func.isWrapper; first | (rw [if_pos (by decide +kernel)]; kernel_rfl) | (rw [if_neg (by decide +kernel)]; exact ⟨rfl, rfl⟩))
    (λos started H enc _ => eyeTrue_lifted os started H enc)
theorem eyeTrue_card_holds : Rows.EyeTrueCardSaid :=
  Claim7.holds_tied_plain_at .later [] [.data, .pinned] true (true, "cecec2c2d9828f1afc311786028147dce88bc2b0de7f6a70690dd81edd3ac7f0") false eyeTrue_holds (λ_ h => by cases h) (by kernel_rfl) (λ_ h => by cases h) eyeTrue_row_tie rfl ⟨rfl, rfl⟩ (by kernel_rfl) rfl
    (λf fn hf hfn => by
      obtain rfl : f = 3 := Option.some.inj ((show Tryd.prog.funcNamed "griffe/griffelaw11.EyeTrue" = some 3 by kernel_rfl).symm.trans hf) |>.symm
      obtain rfl : fn = Tryd.f3 := (Option.some.inj (Tryd.func3.symm.trans hfn)).symm
      exact ⟨by kernel_rfl, λj t ht => by
        rw [Tryd.params3] at ht
        have hm : t ∈ [25, 26] := by simpa using Array.mem_of_getElem? ht
        have hall : ([25, 26].all λu => !Tryd.prog.wantsStandIn u) = true := by kernel_rfl
        exact (show Tryd.prog.wantsStandIn t = false by simpa using List.all_eq_true.1 hall t hm)⟩)
    (by kernel_rfl)
#print axioms eyeTrue_card_holds
end Go.Proofs.YtglndbfamncmaaaDoor