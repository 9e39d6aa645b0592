/- griffe/griffelaw11.EyeTells: it hands back true, whatever its arguments are, and leaves them as they were. -/
import Derived.Test.YtoagdbabgiekgaaDoorTie
import Derived.Test.YtoagdbabgiekgaaDoorCards
import Derived.Lib.SmallJoins
import Derived.Lay
import Derived.Stop.Joined
import Derived.Test.YtoagdbabgiekgaaDoorR6
namespace Go.Proofs.YtoagdbabgiekgaaDoor
open Go Go.V Go.ChangeShapes Go.WideShapes Go.ChangeAt Go.RowKit
theorem own : ownKnob Tryd.prog.godebug = none := by kernel_rfl
theorem laidOut : laidOutB Tryd.prog = true := by kernel_rfl
set_option maxRecDepth 100000 in
theorem eyeTells_lifted (os : Os) (started : os.Started) (H : Type) (enc : TypeId × Value → H) :
    ReturnsInHanded {} Tryd.checked os 7 .any (fun w args => (Rows.eyeTellsSpec.pre enc Tryd.prog Tryd.f7 Rows.eyeTellsRow.domain false w args ∧ laidMetH Tryd.prog Rows.eyeTellsRow.laid w) ∧ sizedMet enc Tryd.prog Tryd.f7 (OpenSpec.ofChange Rows.eyeTellsSpec) false w args)
      (Rows.eyeTellsSpec.post enc Tryd.prog Tryd.f7 false true false false) := by
  refine returnsInHanded_of_change_and (C := Tryd.checked) (X := fun w _ => laidMetH Tryd.prog Rows.eyeTellsRow.laid w) (fun _ _ _ hh h => h.of_heap hh) own started (by kernel_rfl) Tryd.func7
    (ChangeSpec.witness_shaped (enc := enc) (C := Tryd.checked) (os := os) (X := fun w _ => laidMetH Tryd.prog Rows.eyeTellsRow.laid w) false (World.laidAll Tryd.prog os Rows.eyeTellsRow.laid) #[.agg #[.int .u8 (0), .slice none 0 0, .slice none 0 0, .slice none 0 0], .int .u8 (0)] 8 (World.laidAll_os _ _ _)
      (World.shaped_of_ZipB (by kernel_rfl) (by kernel_rfl)) (by kernel_rfl) (by kernel_rfl) (by kernel_rfl)
      (by rw [MakeChecks.laidMetH_plain _ _ _ (by kernel_rfl)]; exact laidMet_laidAll _ (by kernel_rfl) (by kernel_rfl))) ?_
  intro W base args ds gs before hval hW _ _ _ _
  have hW' := hW
  obtain ⟨p, q, hA, hV, rfl, _, _⟩ := hW
  have hds : ds.length = 2 := trodAll_len hA
  have hs : Rows.eyeTellsSpec.fn H ds = { results := [.lit (.bool true)], args := ds } := match ds, hds with | [_, _], _ => rfl
  refine Calls.mono (law_calls Tryd.ok_law11_EyeTells Tryd.fun7.enterable (ks := [(.pair (.i .u8) (.pair (.list (.i .u8)) (.pair (.list (.i .u16)) (.list (.i .u8))))), (.i .u8)]) (by kernel_rfl) (fun j t v h1 h2 => hval j t v (by simpa using h1) (by simpa using h2)) hA (fun x hx => ⟨_, rfl, Tryd.rightPre_of hx⟩))
    (fun e W' ⟨he, hb⟩ => ⟨_, he, post_true (tb := 4) laidOut (by kernel_rfl) rfl rfl (by kernel_rfl) hs hW' hb⟩)
theorem eyeTells_holds : Rows.EyeTellsSaid :=
  OpenClaim.holds_of_wide 7 Tryd.f7 rfl rfl rfl rfl rfl rfl rfl ⟨rfl, rfl, rfl, rfl, rfl⟩ rfl rfl rfl rfl rfl (by kernel_rfl) Tryd.func7 (by kernel_rfl)
    (of_decide_eq_true (by kernel_rfl)) (by unfold Func.isWrapper; first | (rw [if_pos (by decide +kernel)]; kernel_rfl) | (rw [if_neg (by decide +kernel)]; exact ⟨rfl, rfl⟩))
    (fun os started H enc _ => eyeTells_lifted os started H enc)
theorem eyeTells_card_holds : Rows.EyeTellsCardSaid :=
  Claim7.holds_tied_plain_at .later [] [.data, .pinned] true (true, "76dc4a8f4482e347c76ae5c95d7b58d47262a7c37a70c92036b52cae6183b036") false eyeTells_holds (fun _ h => by cases h) (by kernel_rfl) (fun _ h => by cases h) eyeTells_row_tie rfl ⟨rfl, rfl⟩ (by kernel_rfl) rfl
    (fun f fn hf hfn => by
      obtain rfl : f = 7 := Option.some.inj ((show Tryd.prog.funcNamed "griffe/griffelaw11.EyeTells" = some 7 by kernel_rfl).symm.trans hf) |>.symm
      obtain rfl : fn = Tryd.f7 := (Option.some.inj (Tryd.func7.symm.trans hfn)).symm
      exact ⟨by kernel_rfl, fun j t ht => by
        rw [Tryd.params7] at ht
        have hm : t ∈ [58, 5] := by simpa using Array.mem_of_getElem? ht
        have hall : ([58, 5].all fun u => !Tryd.prog.wantsStandIn u) = true := by kernel_rfl
        exact (show Tryd.prog.wantsStandIn t = false by simpa using List.all_eq_true.1 hall t hm)⟩)
    (by kernel_rfl)
#print axioms eyeTells_card_holds
end Go.Proofs.YtoagdbabgiekgaaDoor