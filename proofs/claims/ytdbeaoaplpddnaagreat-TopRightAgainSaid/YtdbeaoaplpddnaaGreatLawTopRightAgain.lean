/- griffe/griffetop.TopRightAgain: it hands back true, whatever its arguments are, and leaves them as they were. -/
import Derived.Test.YtdbeaoaplpddnaaGreatRows
import Derived.Lib.SmallJoins
import Derived.Lay
import Derived.Stop.Joined
import Derived.Test.YtdbeaoaplpddnaaGreatR6
namespace Go.Proofs.YtdbeaoaplpddnaaGreat
open Go Go.V Go.ChangeShapes Go.WideShapes Go.ChangeAt Go.RowKit
theorem own : ownKnob Tryz.prog.godebug = none := by kernel_rfl
theorem laidOut : laidOutB Tryz.prog = true := by kernel_rfl
set_option maxRecDepth 100000 in
theorem topRightAgain_lifted (os : Os) (started : os.Started) (H : Type) (enc : TypeId × Value → H) :
    ReturnsInHanded {} Tryz.checked os 3 .any (Rows.topRightAgainSpec.pre6 enc Tryz.prog Tryz.f3 Rows.topRightAgainRow.domain false)
      (Rows.topRightAgainSpec.post enc Tryz.prog Tryz.f3 false true false false) := by
  refine returnsInHanded_of_change (C := Tryz.checked) own started (by kernel_rfl) Tryz.func3
    (ChangeSpec.witness6 (enc := enc) (C := Tryz.checked) (os := os) false ⟨#[], #[.agg #[.int .u8 (0), .slice none 0 0, .slice none 0 0, .slice none 0 0], .slice none 0 0], []⟩ 8 (by kernel_rfl) (by kernel_rfl) (by kernel_rfl) (by kernel_rfl) (by kernel_rfl)) ?_
  intro W base args ds gs before hval hW _ _
  have hW' := hW
  obtain ⟨p, q, hA, hV, rfl, _, _⟩ := hW
  have hds : ds.length = 2 := Rh hA
  have hs : Rows.topRightAgainSpec.fn H ds = { results := [.lit (.bool true)], args := ds } := match ds, hds with | [_, _], _ => rfl
  refine Calls.mono (Q2a (fun _ _ h => by cases h) Tryz.ok_top_TopRightAgain Tryz.fun3.enterable (ks := [(.pair (.i .u8) (.pair (.list (.i .u8)) (.pair (.list (.i .u16)) (.list (.i .u8))))), (.list (.i .u8))]) (by kernel_rfl) (fun j t v h1 h2 => hval j t v (by simpa using h1) (by simpa using h2)) hA (fun x hx => ⟨_, rfl, Tryz.againPre_of hx⟩))
    (fun e W' ⟨he, hb⟩ => ⟨_, he, Q0t (tb := 4) laidOut (by kernel_rfl) rfl rfl (by kernel_rfl) hs hW' hb⟩)
theorem topRightAgain_holds : Rows.TopRightAgainSaid :=
  OpenClaim.holds_of_wide 3 Tryz.f3 rfl rfl rfl rfl rfl rfl rfl ⟨rfl, rfl, rfl, rfl, rfl⟩ rfl rfl rfl rfl rfl (by kernel_rfl) Tryz.func3 (by kernel_rfl)
    (of_decide_eq_true (by kernel_rfl)) (by unfold Func.isWrapper; first | (rw [if_pos (by decide +kernel)]; kernel_rfl) | (rw [if_neg (by decide +kernel)]; exact ⟨rfl, rfl⟩))
    (fun os started H enc _ => topRightAgain_lifted os started H enc)
#print axioms topRightAgain_holds
end Go.Proofs.YtdbeaoaplpddnaaGreat