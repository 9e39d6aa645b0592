/- griffe/griffelaw02.ChainSame: it hands back true, whatever its arguments are, and leaves them as they were. -/
import Derived.Test.YtfblnfcecfjbpaaGreatRows
import Derived.Lib.SmallJoins
import Derived.Lay
import Derived.Stop.Joined
import Derived.Test.YtfblnfcecfjbpaaGreatS14
namespace Go.Proofs.YtfblnfcecfjbpaaGreat
open Go Go.V Go.ChangeShapes Go.WideShapes Go.ChangeAt Go.RowKit
theorem own : ownKnob Tryz.prog.godebug = none := by kernel_rfl
theorem laidOut : laidOutB Tryz.prog = true := by kernel_rfl
set_option maxRecDepth 100000 in
theorem chainSame_lifted (os : Os) (started : os.Started) (H : Type) (enc : TypeId × Value -> H) :
    ReturnsInHanded {} Tryz.checked os 7 .any (Rows.chainSameSpec.pre6 enc Tryz.prog Tryz.f7 Rows.chainSameRow.domain false)
      (Rows.chainSameSpec.post enc Tryz.prog Tryz.f7 false true false false) := by
  refine returnsInHanded_of_change (C := Tryz.checked) own started (by kernel_rfl) Tryz.func7
    (ChangeSpec.witness6 (enc := enc) (C := Tryz.checked) (os := os) false ⟨#[], #[.agg #[.int .u8 (0), .slice none 0 0, .slice none 0 0, .int .u32 (0)], .int .u8 (0)], []⟩ 8 (by kernel_rfl) (by kernel_rfl) (by kernel_rfl) (by kernel_rfl) (by kernel_rfl)) ?_
  intro W base args ds gs before hval hW _ _
  have hW' := hW
  obtain ⟨p, q, hA, hV, rfl, _, _⟩ := hW
  have hds : ds.length = 2 := HD hA
  have hs : Rows.chainSameSpec.fn H ds = { results := [.lit (.bool true)], args := ds } := match ds, hds with | [_, _], _ => rfl
  refine Calls.mono (O9 (λ_ _ h => by cases h) Tryz.ok_law02_ChainSame Tryz.fun7.enterable (ks := [(.pair (.i .u8) (.pair (.list (.i .u32)) (.pair (.list (.i .u8)) (.i .u32)))), (.i .u8)]) (by kernel_rfl) (λj t v h1 h2 => hval j t v (by simpa using h1) (by simpa using h2)) hA (λx hx => ⟨_, rfl, Tryz.samePre_of hx⟩))
    (λe W' ⟨he, hb⟩ => ⟨_, he, O_ (tb := 4) laidOut (by kernel_rfl) rfl rfl (by kernel_rfl) hs hW' hb⟩)
theorem chainSame_holds : Rows.ChainSameSaid :=
  OpenClaim.holds_of_wide 7 Tryz.f7 rfl rfl rfl rfl rfl rfl rfl ⟨rfl, rfl, rfl, rfl, rfl⟩ rfl rfl rfl rfl rfl (by kernel_rfl) Tryz.func7 (by kernel_rfl)
    (of_decide_eq_true (by kernel_rfl)) (by unfold Func.isWrapper; first | (rw [if_pos (by decide +kernel)]; kernel_rfl) | (rw [if_neg (by decide +kernel)]; exact ⟨rfl, rfl⟩))
    (λos started H enc _ => chainSame_lifted os started H enc)
#print axioms chainSame_holds
end Go.Proofs.YtfblnfcecfjbpaaGreat