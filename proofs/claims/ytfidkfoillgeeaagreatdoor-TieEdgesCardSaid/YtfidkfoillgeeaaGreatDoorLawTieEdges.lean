/- griffe/griffelaw03.TieEdges: it hands back true, whatever its arguments are, and leaves them as they were. -/
import Derived.Test.YtfidkfoillgeeaaGreatDoorTie
import Derived.Test.YtfidkfoillgeeaaGreatDoorCards
import Derived.Lib.SmallJoins
import Derived.Lay
import Derived.Stop.Joined
import Derived.Test.YtfidkfoillgeeaaGreatDoorQ6
namespace Go.Proofs.YtfidkfoillgeeaaGreatDoor
open Go Go.V Go.ChangeShapes Go.WideShapes Go.ChangeAt Go.RowKit
theorem own : ownKnob Tryz.prog.godebug = none := by kernel_rfl
theorem laidOut : laidOutB Tryz.prog = true := by kernel_rfl
set_option maxRecDepth 100000 in
theorem tieEdges_lifted (os : Os) (started : os.Started) (H : Type) (enc : TypeId × Value -> H) :
    ReturnsInHanded {} Tryz.checked os 4 .any (fun w args => (Rows.tieEdgesSpec.pre enc Tryz.prog Tryz.f4 Rows.tieEdgesRow.domain false w args /\ laidMetH Tryz.prog Rows.tieEdgesRow.laid w) /\ sizedMet enc Tryz.prog Tryz.f4 (OpenSpec.ofChange Rows.tieEdgesSpec) false w args)
      (Rows.tieEdgesSpec.post enc Tryz.prog Tryz.f4 false true false false) := by
  refine returnsInHanded_of_change_and (C := Tryz.checked) (X := fun w _ => laidMetH Tryz.prog Rows.tieEdgesRow.laid w) (fun _ _ _ hh h => h.of_heap hh) own started (by kernel_rfl) Tryz.func4
    (ChangeSpec.witness_shaped (enc := enc) (C := Tryz.checked) (os := os) (X := fun w _ => laidMetH Tryz.prog Rows.tieEdgesRow.laid w) false (World.laidAll Tryz.prog os Rows.tieEdgesRow.laid) #[.agg #[.int .u8 (0), .slice none 0 0, .slice none 0 0], .agg #[.int .u8 (0), .int .u8 (0), .int .u8 (0)]] 8 (World.laidAll_os _ _ _)
      (World.shaped_of_ZipB (by kernel_rfl) (by kernel_rfl)) (by kernel_rfl) (by kernel_rfl) (by kernel_rfl)
      (by rw [MakeChecks.laidMetH_plain _ _ _ (by kernel_rfl)]; exact laidMet_laidAll _ (by kernel_rfl) (by kernel_rfl))) ?_
  intro W base args ds gs before hval hW _ _ _ _
  have hW' := hW
  obtain ⟨p, q, hA, hV, rfl, _, _⟩ := hW
  have hds : ds.length = 2 := Ha hA
  have hs : Rows.tieEdgesSpec.fn H ds = { results := [.lit (.bool true)], args := ds } := match ds, hds with | [_, _], _ => rfl
  refine Calls.mono (I_ (fun _ _ h => by cases h) Tryz.ok_law03_TieEdges Tryz.fun4.enterable (ks := [(.pair (.i .u8) (.pair (.list (.i .u8)) (.list (.i .u16)))), (.pair (.i .u8) (.pair (.i .u8) (.i .u8)))]) (by kernel_rfl) (fun j t v h1 h2 => hval j t v (by simpa using h1) (by simpa using h2)) hA (fun x hx => ⟨_, rfl, Tryz.edgPre_of hx⟩))
    (fun e W' ⟨he, hb⟩ => ⟨_, he, Ox (tb := 4) laidOut (by kernel_rfl) rfl rfl (by kernel_rfl) hs hW' hb⟩)
theorem tieEdges_holds : Rows.TieEdgesSaid :=
  OpenClaim.holds_of_wide 4 Tryz.f4 rfl rfl rfl rfl rfl rfl rfl ⟨rfl, rfl, rfl, rfl, rfl⟩ rfl rfl rfl rfl rfl (by kernel_rfl) Tryz.func4 (by kernel_rfl)
    (of_decide_eq_true (by kernel_rfl)) (by unfold Func.isWrapper; first | (rw [if_pos (by decide +kernel)]; kernel_rfl) | (rw [if_neg (by decide +kernel)]; exact ⟨rfl, rfl⟩))
    (fun os started H enc _ => tieEdges_lifted os started H enc)
theorem tieEdges_card_holds : Rows.TieEdgesCardSaid :=
  Claim7.holds_tied_plain_at .later [] [.data, .pinned] true (true, "3a643211d638034be76af691f7a0388a5caa550fead120ab734a96cb61b478f5") false tieEdges_holds (fun _ h => by cases h) (by kernel_rfl) (fun _ h => by cases h) tieEdges_row_tie rfl ⟨rfl, rfl⟩ (by kernel_rfl) rfl
    (fun f fn hf hfn => by
      obtain rfl : f = 4 := Option.some.inj ((show Tryz.prog.funcNamed "griffe/griffelaw03.TieEdges" = some 4 by kernel_rfl).symm.trans hf) |>.symm
      obtain rfl : fn = Tryz.f4 := (Option.some.inj (Tryz.func4.symm.trans hfn)).symm
      exact ⟨by kernel_rfl, fun j t ht => by
        rw [Tryz.params4] at ht
        have hm : t ∈ [46, 47] := by simpa using Array.mem_of_getElem? ht
        have hall : ([46, 47].all fun u => !Tryz.prog.wantsStandIn u) = true := by kernel_rfl
        exact (show Tryz.prog.wantsStandIn t = false by simpa using List.all_eq_true.1 hall t hm)⟩)
    (by kernel_rfl)
#print axioms tieEdges_card_holds
end Go.Proofs.YtfidkfoillgeeaaGreatDoor