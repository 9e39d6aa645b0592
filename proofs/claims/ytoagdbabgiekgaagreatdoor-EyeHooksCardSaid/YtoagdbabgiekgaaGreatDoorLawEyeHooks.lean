/- griffe/griffelaw11.EyeHooks: it hands back true, whatever its arguments are, and leaves them as they were. -/
import Derived.Test.YtoagdbabgiekgaaGreatDoorTie
import Derived.Test.YtoagdbabgiekgaaGreatDoorCards
import Derived.Lib.SmallJoins
import Derived.Lay
import Derived.Stop.Joined
import Derived.Test.YtoagdbabgiekgaaGreatDoorR6
namespace Go.Proofs.YtoagdbabgiekgaaGreatDoor
open Go Go.V Go.ChangeShapes Go.WideShapes Go.ChangeAt Go.RowKit
theorem own : ownKnob Tryz.prog.godebug = none := by kernel_rfl
theorem laidOut : laidOutB Tryz.prog = true := by kernel_rfl
set_option maxRecDepth 100000 in
theorem eyeHooks_lifted (os : Os) (started : os.Started) (H : Type) (enc : TypeId × Value → H) :
    ReturnsInHanded {} Tryz.checked os 4 .any (fun w args => (Rows.eyeHooksSpec.pre enc Tryz.prog Tryz.f4 Rows.eyeHooksRow.domain false w args ∧ laidMetH Tryz.prog Rows.eyeHooksRow.laid w) ∧ sizedMet enc Tryz.prog Tryz.f4 (OpenSpec.ofChange Rows.eyeHooksSpec) false w args)
      (Rows.eyeHooksSpec.post enc Tryz.prog Tryz.f4 false true false false) := by
  refine returnsInHanded_of_change_and (C := Tryz.checked) (X := fun w _ => laidMetH Tryz.prog Rows.eyeHooksRow.laid w) (fun _ _ _ hh h => h.of_heap hh) own started (by kernel_rfl) Tryz.func4
    (ChangeSpec.witness_shaped (enc := enc) (C := Tryz.checked) (os := os) (X := fun w _ => laidMetH Tryz.prog Rows.eyeHooksRow.laid w) false (World.laidAll Tryz.prog os Rows.eyeHooksRow.laid) #[.agg #[.int .i64 (0), .slice none 0 0], .agg #[.int .i64 (0), .slice none 0 0], .slice none 0 0] 8 (World.laidAll_os _ _ _)
      (World.shaped_of_ZipB (by kernel_rfl) (by kernel_rfl)) (by kernel_rfl) (by kernel_rfl) (by kernel_rfl)
      (by rw [MakeChecks.laidMetH_plain _ _ _ (by kernel_rfl)]; exact laidMet_laidAll _ (by kernel_rfl) (by kernel_rfl))) ?_
  intro W base args ds gs before hval hW _ _ _ _
  have hW' := hW
  obtain ⟨p, q, hA, hV, rfl, _, _⟩ := hW
  have hds : ds.length = 3 := trodAll_len hA
  have hs : Rows.eyeHooksSpec.fn H ds = { results := [.lit (.bool true)], args := ds } := match ds, hds with | [_, _, _], _ => rfl
  refine Calls.mono (law_calls Tryz.ok_law11_EyeHooks Tryz.fun4.enterable (ks := [(.pair (.i .i64) (.list (.i .i64))), (.pair (.i .i64) (.list (.i .i64))), (.list (.pair (.i .i64) (.pair (.i .i64) .bo)))]) (by kernel_rfl) (fun j t v h1 h2 => hval j t v (by simpa using h1) (by simpa using h2)) hA (fun x hx => ⟨_, rfl, trivial⟩))
    (fun e W' ⟨he, hb⟩ => ⟨_, he, post_true (tb := 4) laidOut (by kernel_rfl) rfl rfl (by kernel_rfl) hs hW' hb⟩)
theorem eyeHooks_holds : Rows.EyeHooksSaid :=
  OpenClaim.holds_of_wide 4 Tryz.f4 rfl rfl rfl rfl rfl rfl rfl ⟨rfl, rfl, rfl, rfl, rfl⟩ rfl rfl rfl rfl rfl (by kernel_rfl) Tryz.func4 (by kernel_rfl)
    (of_decide_eq_true (by kernel_rfl)) (by unfold Func.isWrapper; first | (rw [if_pos (by decide +kernel)]; kernel_rfl) | (rw [if_neg (by decide +kernel)]; exact ⟨rfl, rfl⟩))
    (fun os started H enc _ => eyeHooks_lifted os started H enc)
theorem eyeHooks_card_holds : Rows.EyeHooksCardSaid :=
  Claim7.holds_tied_plain_at .later [] [.data, .pinned] true (true, "86910a0a7b0b87427bf1988de8a0da5ef1deb136f750a7aa3676679f7d9d3ee9") false eyeHooks_holds (fun _ h => by cases h) (by kernel_rfl) (fun _ h => by cases h) eyeHooks_row_tie rfl ⟨rfl, rfl⟩ (by kernel_rfl) rfl
    (fun f fn hf hfn => by
      obtain rfl : f = 4 := Option.some.inj ((show Tryz.prog.funcNamed "griffe/griffelaw11.EyeHooks" = some 4 by kernel_rfl).symm.trans hf) |>.symm
      obtain rfl : fn = Tryz.f4 := (Option.some.inj (Tryz.func4.symm.trans hfn)).symm
      exact ⟨by kernel_rfl, fun j t ht => by
        rw [Tryz.params4] at ht
        have hm : t ∈ [24, 26, 46] := by simpa using Array.mem_of_getElem? ht
        have hall : ([24, 26, 46].all fun u => !Tryz.prog.wantsStandIn u) = true := by kernel_rfl
        exact (show Tryz.prog.wantsStandIn t = false by simpa using List.all_eq_true.1 hall t hm)⟩)
    (by kernel_rfl)
#print axioms eyeHooks_card_holds
end Go.Proofs.YtoagdbabgiekgaaGreatDoor