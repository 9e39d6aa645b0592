/- griffe/griffelaw11.EyeFinds: it hands back true, whatever its arguments are, and leaves them as they were. -/
import Derived.Test.YtdpcdbeklccfnaaGreatDoorTie
import Derived.Test.YtdpcdbeklccfnaaGreatDoorCards
import Derived.Lib.SmallJoins
import Derived.Lay
import Derived.Stop.Joined
import Derived.Test.YtdpcdbeklccfnaaGreatDoorE6
namespace Go.Proofs.YtdpcdbeklccfnaaGreatDoor
open Go Go.V Go.ChangeShapes Go.WideShapes Go.ChangeAt Go.RowKit
theorem own : ownKnob Tryz.prog.godebug = none := by kernel_rfl
theorem laidOut : laidOutB Tryz.prog = true := by kernel_rfl
set_option maxRecDepth 100000 in
theorem eyeFinds_lifted (os : Os) (started : os.Started) (H : Type) (enc : TypeId × Value -> H) :
    ReturnsInHanded {} Tryz.checked os 3 .any (λw args => (Rows.eyeFindsSpec.pre enc Tryz.prog Tryz.f3 Rows.eyeFindsRow.domain false w args /\ laidMetH Tryz.prog Rows.eyeFindsRow.laid w) /\ sizedMet enc Tryz.prog Tryz.f3 (OpenSpec.ofChange Rows.eyeFindsSpec) false w args)
      (Rows.eyeFindsSpec.post enc Tryz.prog Tryz.f3 false true false false) := by
  refine returnsInHanded_of_change_and (C := Tryz.checked) (X := λw _ => laidMetH Tryz.prog Rows.eyeFindsRow.laid w) (λ_ _ _ hh h => h.of_heap hh) own started (by kernel_rfl) Tryz.func3
    (ChangeSpec.witness_shaped (enc := enc) (C := Tryz.checked) (os := os) (X := λw _ => laidMetH Tryz.prog Rows.eyeFindsRow.laid w) false (World.laidAll Tryz.prog os Rows.eyeFindsRow.laid) #[.agg #[.int .i64 (0), .slice none 0 0], .agg #[.int .i64 (0), .slice none 0 0], .slice none 0 0] 8 (World.laidAll_os _ _ _)
      (World.shaped_of_ZipB (by kernel_rfl) (by kernel_rfl)) (by kernel_rfl) (by kernel_rfl) (by kernel_rfl)
      (by rw [MakeChecks.laidMetH_plain _ _ _ (by kernel_rfl)]; exact laidMet_laidAll _ (by kernel_rfl) (by kernel_rfl))) ?_
  intro W base args ds gs before hval hW _ _ _ _
  have hW' := hW
  obtain ⟨p, q, hA, hV, rfl, _, _⟩ := hW
  have hds : ds.length = 3 := BY hA
  have hs : Rows.eyeFindsSpec.fn H ds = { results := [.lit (.bool true)], args := ds } := match ds, hds with | [_, _, _], _ => rfl
  refine Calls.mono (Ik (λ_ _ h => by cases h) Tryz.ok_law11_EyeFinds Tryz.fun3.enterable (ks := [(.pair (.i .i64) (.list (.i .i64))), (.pair (.i .i64) (.list (.i .i64))), (.list .st)]) (by kernel_rfl) (λj t v h1 h2 => hval j t v (by simpa using h1) (by simpa using h2)) hA (λx hx => ⟨_, rfl, trivial⟩))
    (λe W' ⟨he, hb⟩ => ⟨_, he, ES (tb := 4) laidOut (by kernel_rfl) rfl rfl (by kernel_rfl) hs hW' hb⟩)
theorem eyeFinds_holds : Rows.EyeFindsSaid :=
  OpenClaim.holds_of_wide 3 Tryz.f3 rfl rfl rfl rfl rfl rfl rfl ⟨rfl, rfl, rfl, rfl, rfl⟩ rfl rfl rfl rfl rfl (by kernel_rfl) Tryz.func3 (by kernel_rfl)
    (of_decide_eq_true (by kernel_rfl)) (by unfold Func.isWrapper; first | (rw [if_pos (by decide +kernel)]; kernel_rfl) | (rw [if_neg (by decide +kernel)]; exact ⟨rfl, rfl⟩))
    (λos started H enc _ => eyeFinds_lifted os started H enc)
theorem eyeFinds_card_holds : Rows.EyeFindsCardSaid :=
  Claim7.holds_tied_plain_at .later [] [.data, .pinned] true (true, "11f555c41b1246a1984791e943c1f06c14da1a3e62ebc8bcc78f023cea08237b") false eyeFinds_holds (λ_ h => by cases h) (by kernel_rfl) (λ_ h => by cases h) eyeFinds_row_tie rfl ⟨rfl, rfl⟩ (by kernel_rfl) rfl
    (λf fn hf hfn => by
      obtain rfl : f = 3 := Option.some.inj ((show Tryz.prog.funcNamed "griffe/griffelaw11.EyeFinds" = some 3 by kernel_rfl).symm.trans hf) |>.symm
      obtain rfl : fn = Tryz.f3 := (Option.some.inj (Tryz.func3.symm.trans hfn)).symm
      exact ⟨by kernel_rfl, λj t ht => by
        rw [Tryz.params3] at ht
        have hm : t ∈ [24, 26, 27] := by simpa using Array.mem_of_getElem? ht
        have hall : ([24, 26, 27].all λu => !Tryz.prog.wantsStandIn u) = true := by kernel_rfl
        exact (show Tryz.prog.wantsStandIn t = false by simpa using List.all_eq_true.1 hall t hm)⟩)
    (by kernel_rfl)
#print axioms eyeFinds_card_holds
end Go.Proofs.YtdpcdbeklccfnaaGreatDoor