/- griffe/griffelaw02.ChainPunches: it hands back true, whatever its arguments are, and leaves them as they were. -/
import Derived.Test.YtfblnfcecfjbpaaGreatRows
import Derived.Lib.SmallJoins
import Derived.Lay
import Derived.Stop.Joined
import Derived.Test.YtfblnfcecfjbpaaGreatR7
namespace Go.Proofs.YtfblnfcecfjbpaaGreat
open Go Go.V Go.ChangeShapes Go.WideShapes Go.ChangeAt Go.RowKit
theorem own : ownKnob Tryz.prog.godebug = none := by kernel_rfl
theorem laidOut : laidOutB Tryz.prog = true := by kernel_rfl
set_option maxRecDepth 100000 in
theorem chainPunches_lifted (os : Os) (started : os.Started) (H : Type) (enc : TypeId × Value → H) :
    ReturnsInHanded {} Tryz.checked os 14 .any (Rows.chainPunchesSpec.pre6 enc Tryz.prog Tryz.f14 Rows.chainPunchesRow.domain false)
      (Rows.chainPunchesSpec.post enc Tryz.prog Tryz.f14 false true false false) := by
  refine returnsInHanded_of_change (C := Tryz.checked) own started (by kernel_rfl) Tryz.func14
    (ChangeSpec.witness6 (enc := enc) (C := Tryz.checked) (os := os) false ⟨#[], #[.agg #[.int .i64 (0), .slice none 0 0], .agg #[.int .i64 (0), .slice none 0 0], .slice none 0 0], []⟩ 8 (by kernel_rfl) (by kernel_rfl) (by kernel_rfl) (by kernel_rfl) (by kernel_rfl)) ?_
  intro W base args ds gs before hval hW _ _
  have hW' := hW
  obtain ⟨p, q, hA, hV, rfl, _, _⟩ := hW
  have hds : ds.length = 3 := Pb hA
  have hs : Rows.chainPunchesSpec.fn H ds = { results := [.lit (.bool true)], args := ds } := match ds, hds with | [_, _, _], _ => rfl
  refine Calls.mono (Fg (fun _ _ h => by cases h) Tryz.ok_law02_ChainPunches Tryz.fun14.enterable (ks := [(.pair (.i .i64) (.list (.pair (.i .i64) (.pair (.i .i64) .bo)))), (.pair (.i .i64) (.list (.i .i64))), (.list (.i .i64))]) (by kernel_rfl) (fun j t v h1 h2 => hval j t v (by simpa using h1) (by simpa using h2)) hA (fun x hx => ⟨_, rfl, ⟨hx.1.2.1, hx.2.1.2.1, hx.2.2.1⟩⟩))
    (fun e W' ⟨he, hb⟩ => ⟨_, he, Ft (tb := 4) laidOut (by kernel_rfl) rfl rfl (by kernel_rfl) hs hW' hb⟩)
theorem chainPunches_holds : Rows.ChainPunchesSaid :=
  OpenClaim.holds_of_wide 14 Tryz.f14 rfl rfl rfl rfl rfl rfl rfl ⟨rfl, rfl, rfl, rfl, rfl⟩ rfl rfl rfl rfl rfl (by kernel_rfl) Tryz.func14 (by kernel_rfl)
    (of_decide_eq_true (by kernel_rfl)) (by unfold Func.isWrapper; first | (rw [if_pos (by decide +kernel)]; kernel_rfl) | (rw [if_neg (by decide +kernel)]; exact ⟨rfl, rfl⟩))
    (fun os started H enc _ => chainPunches_lifted os started H enc)
#print axioms chainPunches_holds
end Go.Proofs.YtfblnfcecfjbpaaGreat