/- griffe/griffetop.TopSwapped: it hands back true, whatever its arguments are, and leaves them as they were. -/
import Derived.Test.YtannmfpiibodeaaGreatRows
import Derived.Lib.SmallJoins
import Derived.Lay
import Derived.Stop.Joined
import Derived.Test.YtannmfpiibodeaaGreatS8
namespace Go.Proofs.YtannmfpiibodeaaGreat
open Go Go.V Go.ChangeShapes Go.WideShapes Go.ChangeAt Go.RowKit
theorem own : ownKnob Tryz.prog.godebug = none := by kernel_rfl
theorem laidOut : laidOutB Tryz.prog = true := by kernel_rfl
set_option maxRecDepth 100000 in
theorem topSwapped_lifted (os : Os) (started : os.Started) (H : Type) (enc : TypeId × Value -> H) :
    ReturnsInHanded {} Tryz.checked os 3 .any (Rows.topSwappedSpec.pre6 enc Tryz.prog Tryz.f3 Rows.topSwappedRow.domain false)
      (Rows.topSwappedSpec.post enc Tryz.prog Tryz.f3 false true false false) := by
  refine returnsInHanded_of_change (C := Tryz.checked) own started (by kernel_rfl) Tryz.func3
    (ChangeSpec.witness6 (enc := enc) (C := Tryz.checked) (os := os) false ⟨#[], #[.agg #[.int .u8 (0), .slice none 0 0, .slice none 0 0, .slice none 0 0], .int .u8 (0), .bool false], []⟩ 8 (by kernel_rfl) (by kernel_rfl) (by kernel_rfl) (by kernel_rfl) (by kernel_rfl)) ?_
  intro W base args ds gs before hval hW _ _
  have hW' := hW
  obtain ⟨p, q, hA, hV, rfl, _, _⟩ := hW
  have hds : ds.length = 3 := EC hA
  have hs : Rows.topSwappedSpec.fn H ds = { results := [.lit (.bool true)], args := ds } := match ds, hds with | [_, _, _], _ => rfl
  refine Calls.mono (Q9j (λ_ _ h => by cases h) Tryz.ok_top_TopSwapped Tryz.fun3.enterable (ks := [(.pair (.i .u8) (.pair (.list (.i .u8)) (.pair (.list (.i .u16)) (.list (.i .u8))))), (.i .u8), .bo]) (by kernel_rfl) (λj t v h1 h2 => hval j t v (by simpa using h1) (by simpa using h2)) hA (λx hx => ⟨_, rfl, Tryz.swpPre_of hx⟩))
    (λe W' ⟨he, hb⟩ => ⟨_, he, Z0f (tb := 4) laidOut (by kernel_rfl) rfl rfl (by kernel_rfl) hs hW' hb⟩)
theorem topSwapped_holds : Rows.TopSwappedSaid :=
  OpenClaim.holds_of_wide 3 Tryz.f3 rfl rfl rfl rfl rfl rfl rfl ⟨rfl, rfl, rfl, rfl, rfl⟩ rfl rfl rfl rfl rfl (by kernel_rfl) Tryz.func3 (by kernel_rfl)
    (of_decide_eq_true (by kernel_rfl)) (by unfold Func.isWrapper; first | (rw [if_pos (by decide +kernel)]; kernel_rfl) | (rw [if_neg (by decide +kernel)]; exact ⟨rfl, rfl⟩))
    (λos started H enc _ => topSwapped_lifted os started H enc)
#print axioms topSwapped_holds
end Go.Proofs.YtannmfpiibodeaaGreat