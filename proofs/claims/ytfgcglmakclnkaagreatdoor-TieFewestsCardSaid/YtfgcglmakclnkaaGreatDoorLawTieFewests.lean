/- griffe/griffelaw03.TieFewests: it hands back true, whatever its arguments are, and leaves them as they were. -/
import Derived.Test.YtfgcglmakclnkaaGreatDoorTie
import Derived.Test.YtfgcglmakclnkaaGreatDoorCards
import Derived.Lib.SmallJoins
import Derived.Lay
import Derived.Stop.Joined
import Derived.Test.YtfgcglmakclnkaaGreatDoorR6
namespace Go.Proofs.YtfgcglmakclnkaaGreatDoor
open Go Go.V Go.ChangeShapes Go.WideShapes Go.ChangeAt Go.RowKit
theorem own : ownKnob Tryz.prog.godebug = none := by kernel_rfl
theorem laidOut : laidOutB Tryz.prog = true := by kernel_rfl
set_option maxRecDepth 100000 in
theorem tieFewests_lifted (os : Os) (started : os.Started) (H : Type) (enc : TypeId × Value → H) :
    ReturnsInHanded {} Tryz.checked os 6 .any (fun w args => (Rows.tieFewestsSpec.pre enc Tryz.prog Tryz.f6 Rows.tieFewestsRow.domain false w args ∧ laidMetH Tryz.prog Rows.tieFewestsRow.laid w) ∧ sizedMet enc Tryz.prog Tryz.f6 (OpenSpec.ofChange Rows.tieFewestsSpec) false w args)
      (Rows.tieFewestsSpec.post enc Tryz.prog Tryz.f6 false true false false) := by
  refine returnsInHanded_of_change_and (C := Tryz.checked) (X := fun w _ => laidMetH Tryz.prog Rows.tieFewestsRow.laid w) (fun _ _ _ hh h => h.of_heap hh) own started (by kernel_rfl) Tryz.func6
    (ChangeSpec.witness_shaped (enc := enc) (C := Tryz.checked) (os := os) (X := fun w _ => laidMetH Tryz.prog Rows.tieFewestsRow.laid w) false (World.laidAll Tryz.prog os Rows.tieFewestsRow.laid) #[.slice none 0 0] 8 (World.laidAll_os _ _ _)
      (World.shaped_of_ZipB (by kernel_rfl) (by kernel_rfl)) (by kernel_rfl) (by kernel_rfl) (by kernel_rfl)
      (by rw [MakeChecks.laidMetH_plain _ _ _ (by kernel_rfl)]; exact laidMet_laidAll _ (by kernel_rfl) (by kernel_rfl))) ?_
  intro W base args ds gs before hval hW _ _ _ _
  have hW' := hW
  obtain ⟨p, q, hA, hV, rfl, _, _⟩ := hW
  have hds : ds.length = 1 := trodAll_len hA
  have hs : Rows.tieFewestsSpec.fn H ds = { results := [.lit (.bool true)], args := ds } := match ds, hds with | [_], _ => rfl
  refine Calls.mono (law_calls (fun _ _ h => by cases h) Tryz.ok_law03_TieFewests Tryz.fun6.enterable (ks := [(.list .st)]) (by kernel_rfl) (fun j t v h1 h2 => hval j t v (by simpa using h1) (by simpa using h2)) hA (fun x hx => ⟨_, rfl, hx.1⟩))
    (fun e W' ⟨he, hb⟩ => ⟨_, he, post_true (tb := 4) laidOut (by kernel_rfl) rfl rfl (by kernel_rfl) hs hW' hb⟩)
theorem tieFewests_holds : Rows.TieFewestsSaid :=
  OpenClaim.holds_of_wide 6 Tryz.f6 rfl rfl rfl rfl rfl rfl rfl ⟨rfl, rfl, rfl, rfl, rfl⟩ rfl rfl rfl rfl rfl (by kernel_rfl) Tryz.func6 (by kernel_rfl)
    (of_decide_eq_true (by kernel_rfl)) (by unfold Func.isWrapper; first | (rw [if_pos (by decide +kernel)]; kernel_rfl) | (rw [if_neg (by decide +kernel)]; exact ⟨rfl, rfl⟩))
    (fun os started H enc _ => tieFewests_lifted os started H enc)
theorem tieFewests_card_holds : Rows.TieFewestsCardSaid :=
  Claim7.holds_tied_plain_at .later [] [.data, .pinned] true (true, "22402b6e71ae08bf218b3ef6afdf6a1196123caef7b16fb400dbbf2d2339aea5") false tieFewests_holds (fun _ h => by cases h) (by kernel_rfl) (fun _ h => by cases h) tieFewests_row_tie rfl ⟨rfl, rfl⟩ (by kernel_rfl) rfl
    (fun f fn hf hfn => by
      obtain rfl : f = 6 := Option.some.inj ((show Tryz.prog.funcNamed "griffe/griffelaw03.TieFewests" = some 6 by kernel_rfl).symm.trans hf) |>.symm
      obtain rfl : fn = Tryz.f6 := (Option.some.inj (Tryz.func6.symm.trans hfn)).symm
      exact ⟨by kernel_rfl, fun j t ht => by
        rw [Tryz.params6] at ht
        have hm : t ∈ [40] := by simpa using Array.mem_of_getElem? ht
        have hall : ([40].all fun u => !Tryz.prog.wantsStandIn u) = true := by kernel_rfl
        exact (show Tryz.prog.wantsStandIn t = false by simpa using List.all_eq_true.1 hall t hm)⟩)
    (by kernel_rfl)
#print axioms tieFewests_card_holds
end Go.Proofs.YtfgcglmakclnkaaGreatDoor