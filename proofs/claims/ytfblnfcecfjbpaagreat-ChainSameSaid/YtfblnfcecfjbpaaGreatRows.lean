/-
  No cell of these rows narrows 'for every input' (looked for: loops, veiled, ifaces, maps, wideKeys, modest, calm, conditions, laid).
  DERIVED. THE GIVEN ROWS OF THIS SEAT. 12 by the template 'for every input the law returns true; each argument reads behind the call as it read before'; 0 by the template 'total and deterministic' (their statements: YtfblnfcecfjbpaaGreatTotals.lean).
  GIVEN WITH THE SEED: the statements are not yours to turn. If you find one false, say at which input.
  Laid BY PROGRAM, IN A SANDBOX (cutbox-rows.mjs): the forced cells as the released guide's own fill.sh prints them over the translation ac4b1afd7ce71b41… (all of the seat's roots in one cut). By AI agents, Wed Nov 11 2026. No macro, syntax, notation, axiom, sorry.
-/
import Derived.Test.YtfblnfcecfjbpaaGreatChecked
import GoSem.Claim
import GoSem.ClaimJoined
import GoSem.ClaimMapViews
import Derived.JoinedTies
import Derived.KernelRfl
namespace Go.Proofs.YtfblnfcecfjbpaaGreat
/- THE CELL 'sum', in the pinned program and in every row, IS THE sha256 OF THE DUMP (.gsa) THAT YtfblnfcecfjbpaaGreatProg.lean LOADS. Nothing in Lean hashes anything: it is a label: what it is worth is what the hold of that sum in a sandbox is worth. -/
noncomputable def Tryz.pinned : Pinned := { name := "ytfblnfcecfjbpaagreat", sum := "ac4b1afd7ce71b418aad4a06697c83eca2961af66b2fa2bc0c08b70b5a5e9970", checked := Tryz.checked }
namespace Rows
def none {H : Type} : Left H := { results := [], args := [] }

/-- 'griffelaw02.ChainMends': WHATEVER THE INPUT: true; the input reads as it did. -/
def chainMendsSpec : ChangeSpec := { name := "chainMends", fn := fun _ => fun
  | [d] => { results := [.lit (.bool true)], args := [d] }
  | _ => none }
def chainMendsRow : OpenClaim := { program := "ytfblnfcecfjbpaagreat", sum := "ac4b1afd7ce71b418aad4a06697c83eca2961af66b2fa2bc0c08b70b5a5e9970", func := "griffe/griffelaw02.ChainMends", spec := "chainMends", unfollowed := true, recurses := true, plainKeys := false, apart := false }
def ChainMendsSaid : Prop := chainMendsRow.holds Tryz.pinned (OpenSpec.ofChange chainMendsSpec)

/-- ITS FALSE NEIGHBOUR: 'it returns false'. Refute it at one input. -/
def chainMendsWrong : ChangeSpec := { name := "chainMends", fn := fun _ => fun
  | [d] => { results := [.lit (.bool false)], args := [d] }
  | _ => none }
def ChainMendsWrongFalsely : Prop := chainMendsRow.holds Tryz.pinned (OpenSpec.ofChange chainMendsWrong)

/-- 'griffelaw02.ChainCourses': WHATEVER THE INPUT: true; the input reads as it did. -/
def chainCoursesSpec : ChangeSpec := { name := "chainCourses", fn := fun _ => fun
  | [d1, d2] => { results := [.lit (.bool true)], args := [d1, d2] }
  | _ => none }
def chainCoursesRow : OpenClaim := { program := "ytfblnfcecfjbpaagreat", sum := "ac4b1afd7ce71b418aad4a06697c83eca2961af66b2fa2bc0c08b70b5a5e9970", func := "griffe/griffelaw02.ChainCourses", spec := "chainCourses", unfollowed := true, recurses := true, plainKeys := false, apart := false }
def ChainCoursesSaid : Prop := chainCoursesRow.holds Tryz.pinned (OpenSpec.ofChange chainCoursesSpec)

/-- ITS FALSE NEIGHBOUR: 'it returns false'. Refute it at one input. -/
def chainCoursesWrong : ChangeSpec := { name := "chainCourses", fn := fun _ => fun
  | [d1, d2] => { results := [.lit (.bool false)], args := [d1, d2] }
  | _ => none }
def ChainCoursesWrongFalsely : Prop := chainCoursesRow.holds Tryz.pinned (OpenSpec.ofChange chainCoursesWrong)

/-- 'griffelaw02.ChainLays': WHATEVER THE INPUT: true; the input reads as it did. -/
def chainLaysSpec : ChangeSpec := { name := "chainLays", fn := fun _ => fun
  | [d] => { results := [.lit (.bool true)], args := [d] }
  | _ => none }
def chainLaysRow : OpenClaim := { program := "ytfblnfcecfjbpaagreat", sum := "ac4b1afd7ce71b418aad4a06697c83eca2961af66b2fa2bc0c08b70b5a5e9970", func := "griffe/griffelaw02.ChainLays", spec := "chainLays", unfollowed := true, recurses := true, plainKeys := false, apart := false }
def ChainLaysSaid : Prop := chainLaysRow.holds Tryz.pinned (OpenSpec.ofChange chainLaysSpec)

/-- ITS FALSE NEIGHBOUR: 'it returns false'. Refute it at one input. -/
def chainLaysWrong : ChangeSpec := { name := "chainLays", fn := fun _ => fun
  | [d] => { results := [.lit (.bool false)], args := [d] }
  | _ => none }
def ChainLaysWrongFalsely : Prop := chainLaysRow.holds Tryz.pinned (OpenSpec.ofChange chainLaysWrong)

/-- 'griffelaw02.ChainPlaces': WHATEVER THE INPUT: true; the input reads as it did. -/
def chainPlacesSpec : ChangeSpec := { name := "chainPlaces", fn := fun _ => fun
  | [d1, d2, d3] => { results := [.lit (.bool true)], args := [d1, d2, d3] }
  | _ => none }
def chainPlacesRow : OpenClaim := { program := "ytfblnfcecfjbpaagreat", sum := "ac4b1afd7ce71b418aad4a06697c83eca2961af66b2fa2bc0c08b70b5a5e9970", func := "griffe/griffelaw02.ChainPlaces", spec := "chainPlaces", unfollowed := true, recurses := true, plainKeys := false, apart := false }
def ChainPlacesSaid : Prop := chainPlacesRow.holds Tryz.pinned (OpenSpec.ofChange chainPlacesSpec)

/-- ITS FALSE NEIGHBOUR: 'it returns false'. Refute it at one input. -/
def chainPlacesWrong : ChangeSpec := { name := "chainPlaces", fn := fun _ => fun
  | [d1, d2, d3] => { results := [.lit (.bool false)], args := [d1, d2, d3] }
  | _ => none }
def ChainPlacesWrongFalsely : Prop := chainPlacesRow.holds Tryz.pinned (OpenSpec.ofChange chainPlacesWrong)

/-- 'griffelaw02.ChainSame': WHATEVER THE INPUT: true; the input reads as it did. -/
def chainSameSpec : ChangeSpec := { name := "chainSame", fn := fun _ => fun
  | [d1, d2] => { results := [.lit (.bool true)], args := [d1, d2] }
  | _ => none }
def chainSameRow : OpenClaim := { program := "ytfblnfcecfjbpaagreat", sum := "ac4b1afd7ce71b418aad4a06697c83eca2961af66b2fa2bc0c08b70b5a5e9970", func := "griffe/griffelaw02.ChainSame", spec := "chainSame", unfollowed := true, recurses := true, plainKeys := false, apart := false }
def ChainSameSaid : Prop := chainSameRow.holds Tryz.pinned (OpenSpec.ofChange chainSameSpec)

/-- ITS FALSE NEIGHBOUR: 'it returns false'. Refute it at one input. -/
def chainSameWrong : ChangeSpec := { name := "chainSame", fn := fun _ => fun
  | [d1, d2] => { results := [.lit (.bool false)], args := [d1, d2] }
  | _ => none }
def ChainSameWrongFalsely : Prop := chainSameRow.holds Tryz.pinned (OpenSpec.ofChange chainSameWrong)

/-- 'griffelaw02.ChainFewest': WHATEVER THE INPUT: true; the input reads as it did. -/
def chainFewestSpec : ChangeSpec := { name := "chainFewest", fn := fun _ => fun
  | [d1, d2, d3] => { results := [.lit (.bool true)], args := [d1, d2, d3] }
  | _ => none }
def chainFewestRow : OpenClaim := { program := "ytfblnfcecfjbpaagreat", sum := "ac4b1afd7ce71b418aad4a06697c83eca2961af66b2fa2bc0c08b70b5a5e9970", func := "griffe/griffelaw02.ChainFewest", spec := "chainFewest", unfollowed := true, recurses := true, plainKeys := false, apart := false }
def ChainFewestSaid : Prop := chainFewestRow.holds Tryz.pinned (OpenSpec.ofChange chainFewestSpec)

/-- ITS FALSE NEIGHBOUR: 'it returns false'. Refute it at one input. -/
def chainFewestWrong : ChangeSpec := { name := "chainFewest", fn := fun _ => fun
  | [d1, d2, d3] => { results := [.lit (.bool false)], args := [d1, d2, d3] }
  | _ => none }
def ChainFewestWrongFalsely : Prop := chainFewestRow.holds Tryz.pinned (OpenSpec.ofChange chainFewestWrong)

/-- 'griffelaw02.ChainTrue': WHATEVER THE INPUT: true; the input reads as it did. -/
def chainTrueSpec : ChangeSpec := { name := "chainTrue", fn := fun _ => fun
  | [d] => { results := [.lit (.bool true)], args := [d] }
  | _ => none }
def chainTrueRow : OpenClaim := { program := "ytfblnfcecfjbpaagreat", sum := "ac4b1afd7ce71b418aad4a06697c83eca2961af66b2fa2bc0c08b70b5a5e9970", func := "griffe/griffelaw02.ChainTrue", spec := "chainTrue", unfollowed := true, recurses := true, plainKeys := false, apart := false }
def ChainTrueSaid : Prop := chainTrueRow.holds Tryz.pinned (OpenSpec.ofChange chainTrueSpec)

/-- ITS FALSE NEIGHBOUR: 'it returns false'. Refute it at one input. -/
def chainTrueWrong : ChangeSpec := { name := "chainTrue", fn := fun _ => fun
  | [d] => { results := [.lit (.bool false)], args := [d] }
  | _ => none }
def ChainTrueWrongFalsely : Prop := chainTrueRow.holds Tryz.pinned (OpenSpec.ofChange chainTrueWrong)

/-- 'griffelaw02.ChainMore': WHATEVER THE INPUT: true; the input reads as it did. -/
def chainMoreSpec : ChangeSpec := { name := "chainMore", fn := fun _ => fun
  | [d1, d2, d3] => { results := [.lit (.bool true)], args := [d1, d2, d3] }
  | _ => none }
def chainMoreRow : OpenClaim := { program := "ytfblnfcecfjbpaagreat", sum := "ac4b1afd7ce71b418aad4a06697c83eca2961af66b2fa2bc0c08b70b5a5e9970", func := "griffe/griffelaw02.ChainMore", spec := "chainMore", unfollowed := true, recurses := true, plainKeys := false, apart := false }
def ChainMoreSaid : Prop := chainMoreRow.holds Tryz.pinned (OpenSpec.ofChange chainMoreSpec)

/-- ITS FALSE NEIGHBOUR: 'it returns false'. Refute it at one input. -/
def chainMoreWrong : ChangeSpec := { name := "chainMore", fn := fun _ => fun
  | [d1, d2, d3] => { results := [.lit (.bool false)], args := [d1, d2, d3] }
  | _ => none }
def ChainMoreWrongFalsely : Prop := chainMoreRow.holds Tryz.pinned (OpenSpec.ofChange chainMoreWrong)

/-- 'griffelaw02.ChainLaid': WHATEVER THE INPUT: true; the input reads as it did. -/
def chainLaidSpec : ChangeSpec := { name := "chainLaid", fn := fun _ => fun
  | [d] => { results := [.lit (.bool true)], args := [d] }
  | _ => none }
def chainLaidRow : OpenClaim := { program := "ytfblnfcecfjbpaagreat", sum := "ac4b1afd7ce71b418aad4a06697c83eca2961af66b2fa2bc0c08b70b5a5e9970", func := "griffe/griffelaw02.ChainLaid", spec := "chainLaid", unfollowed := true, recurses := true, plainKeys := false, apart := false }
def ChainLaidSaid : Prop := chainLaidRow.holds Tryz.pinned (OpenSpec.ofChange chainLaidSpec)

/-- ITS FALSE NEIGHBOUR: 'it returns false'. Refute it at one input. -/
def chainLaidWrong : ChangeSpec := { name := "chainLaid", fn := fun _ => fun
  | [d] => { results := [.lit (.bool false)], args := [d] }
  | _ => none }
def ChainLaidWrongFalsely : Prop := chainLaidRow.holds Tryz.pinned (OpenSpec.ofChange chainLaidWrong)

/-- 'griffelaw02.ChainEach': WHATEVER THE INPUT: true; the input reads as it did. -/
def chainEachSpec : ChangeSpec := { name := "chainEach", fn := fun _ => fun
  | [d1, d2] => { results := [.lit (.bool true)], args := [d1, d2] }
  | _ => none }
def chainEachRow : OpenClaim := { program := "ytfblnfcecfjbpaagreat", sum := "ac4b1afd7ce71b418aad4a06697c83eca2961af66b2fa2bc0c08b70b5a5e9970", func := "griffe/griffelaw02.ChainEach", spec := "chainEach", unfollowed := true, recurses := true, plainKeys := false, apart := false }
def ChainEachSaid : Prop := chainEachRow.holds Tryz.pinned (OpenSpec.ofChange chainEachSpec)

/-- ITS FALSE NEIGHBOUR: 'it returns false'. Refute it at one input. -/
def chainEachWrong : ChangeSpec := { name := "chainEach", fn := fun _ => fun
  | [d1, d2] => { results := [.lit (.bool false)], args := [d1, d2] }
  | _ => none }
def ChainEachWrongFalsely : Prop := chainEachRow.holds Tryz.pinned (OpenSpec.ofChange chainEachWrong)

/-- 'griffelaw02.ChainLoose': WHATEVER THE INPUT: true; the input reads as it did. -/
def chainLooseSpec : ChangeSpec := { name := "chainLoose", fn := fun _ => fun
  | [d1, d2] => { results := [.lit (.bool true)], args := [d1, d2] }
  | _ => none }
def chainLooseRow : OpenClaim := { program := "ytfblnfcecfjbpaagreat", sum := "ac4b1afd7ce71b418aad4a06697c83eca2961af66b2fa2bc0c08b70b5a5e9970", func := "griffe/griffelaw02.ChainLoose", spec := "chainLoose", unfollowed := true, recurses := true, plainKeys := false, apart := false }
def ChainLooseSaid : Prop := chainLooseRow.holds Tryz.pinned (OpenSpec.ofChange chainLooseSpec)

/-- ITS FALSE NEIGHBOUR: 'it returns false'. Refute it at one input. -/
def chainLooseWrong : ChangeSpec := { name := "chainLoose", fn := fun _ => fun
  | [d1, d2] => { results := [.lit (.bool false)], args := [d1, d2] }
  | _ => none }
def ChainLooseWrongFalsely : Prop := chainLooseRow.holds Tryz.pinned (OpenSpec.ofChange chainLooseWrong)

/-- 'griffelaw02.ChainPunches': WHATEVER THE INPUT: true; the input reads as it did. -/
def chainPunchesSpec : ChangeSpec := { name := "chainPunches", fn := fun _ => fun
  | [d1, d2, d3] => { results := [.lit (.bool true)], args := [d1, d2, d3] }
  | _ => none }
def chainPunchesRow : OpenClaim := { program := "ytfblnfcecfjbpaagreat", sum := "ac4b1afd7ce71b418aad4a06697c83eca2961af66b2fa2bc0c08b70b5a5e9970", func := "griffe/griffelaw02.ChainPunches", spec := "chainPunches", unfollowed := true, recurses := true, plainKeys := false, apart := false }
def ChainPunchesSaid : Prop := chainPunchesRow.holds Tryz.pinned (OpenSpec.ofChange chainPunchesSpec)

/-- ITS FALSE NEIGHBOUR: 'it returns false'. Refute it at one input. -/
def chainPunchesWrong : ChangeSpec := { name := "chainPunches", fn := fun _ => fun
  | [d1, d2, d3] => { results := [.lit (.bool false)], args := [d1, d2, d3] }
  | _ => none }
def ChainPunchesWrongFalsely : Prop := chainPunchesRow.holds Tryz.pinned (OpenSpec.ofChange chainPunchesWrong)

/- THE SECOND FORM. 'bulk': how many values and letters a reading holds, each counted each time it is reached (what is shared counts as often as it is met; a slice's spare places count too). A statement '..UptoSaid' is the law's where the arguments, and the package variables that the reading takes, are together of bulk at most 1048576: NARROWER than '..Said'. Prove '..Said' where nothing that the law and all that it calls make is longer than what came in: it says more and counts as full. Else prove '..UptoSaid'. A law counts once. -/
mutual
def uptoBulk {H : Type} : DataW H → Nat
  | .lit (.string bytes) => bytes.length + 1
  | .lit _ => 1
  | .nil => 1
  | .ptr d => uptoBulk d + 1
  | .slice elems spare => uptoBulkAll elems + uptoBulkAll spare + 1
  | .agg parts => uptoBulkAll parts + 1
  | .iface _ d => uptoBulk d + 1
  | .map entries => uptoBulkEntries entries + 1
  | .held _ => 1
def uptoBulkAll {H : Type} : List (DataW H) → Nat
  | [] => 0
  | d :: r => uptoBulk d + uptoBulkAll r
def uptoBulkEntries {H : Type} : List (Lit × DataW H) → Nat
  | [] => 0
  | x :: r => uptoBulkEntry x + uptoBulkEntries r
def uptoBulkEntry {H : Type} : Lit × DataW H → Nat
  | (.string bytes, d) => bytes.length + uptoBulk d + 1
  | (_, d) => uptoBulk d + 1
 end
def uptoSmall : (H : Type) → List (DataW H) → Bool := fun _ ds => decide (uptoBulkAll ds ≤ 1048576)
def OpenSpec.upto (s : _root_.Go.ChangeSpec) : _root_.Go.OpenSpec := { _root_.Go.OpenSpec.ofChange s with cond := some uptoSmall }

/-- 'griffelaw02.ChainMends', WHERE WHAT IT READS IS OF BULK AT MOST 1048576: true; the input reads as it did. -/
def chainMendsUptoRow : OpenClaim := { program := "ytfblnfcecfjbpaagreat", sum := "ac4b1afd7ce71b418aad4a06697c83eca2961af66b2fa2bc0c08b70b5a5e9970", func := "griffe/griffelaw02.ChainMends", spec := "chainMends", unfollowed := true, recurses := true, plainKeys := false, apart := false, narrowed := true }
def ChainMendsUptoSaid : Prop := chainMendsUptoRow.holds Tryz.pinned (OpenSpec.upto chainMendsSpec)

/-- 'griffelaw02.ChainCourses', WHERE WHAT IT READS IS OF BULK AT MOST 1048576: true; the input reads as it did. -/
def chainCoursesUptoRow : OpenClaim := { program := "ytfblnfcecfjbpaagreat", sum := "ac4b1afd7ce71b418aad4a06697c83eca2961af66b2fa2bc0c08b70b5a5e9970", func := "griffe/griffelaw02.ChainCourses", spec := "chainCourses", unfollowed := true, recurses := true, plainKeys := false, apart := false, narrowed := true }
def ChainCoursesUptoSaid : Prop := chainCoursesUptoRow.holds Tryz.pinned (OpenSpec.upto chainCoursesSpec)

/-- 'griffelaw02.ChainLays', WHERE WHAT IT READS IS OF BULK AT MOST 1048576: true; the input reads as it did. -/
def chainLaysUptoRow : OpenClaim := { program := "ytfblnfcecfjbpaagreat", sum := "ac4b1afd7ce71b418aad4a06697c83eca2961af66b2fa2bc0c08b70b5a5e9970", func := "griffe/griffelaw02.ChainLays", spec := "chainLays", unfollowed := true, recurses := true, plainKeys := false, apart := false, narrowed := true }
def ChainLaysUptoSaid : Prop := chainLaysUptoRow.holds Tryz.pinned (OpenSpec.upto chainLaysSpec)

/-- 'griffelaw02.ChainPlaces', WHERE WHAT IT READS IS OF BULK AT MOST 1048576: true; the input reads as it did. -/
def chainPlacesUptoRow : OpenClaim := { program := "ytfblnfcecfjbpaagreat", sum := "ac4b1afd7ce71b418aad4a06697c83eca2961af66b2fa2bc0c08b70b5a5e9970", func := "griffe/griffelaw02.ChainPlaces", spec := "chainPlaces", unfollowed := true, recurses := true, plainKeys := false, apart := false, narrowed := true }
def ChainPlacesUptoSaid : Prop := chainPlacesUptoRow.holds Tryz.pinned (OpenSpec.upto chainPlacesSpec)

/-- 'griffelaw02.ChainSame', WHERE WHAT IT READS IS OF BULK AT MOST 1048576: true; the input reads as it did. -/
def chainSameUptoRow : OpenClaim := { program := "ytfblnfcecfjbpaagreat", sum := "ac4b1afd7ce71b418aad4a06697c83eca2961af66b2fa2bc0c08b70b5a5e9970", func := "griffe/griffelaw02.ChainSame", spec := "chainSame", unfollowed := true, recurses := true, plainKeys := false, apart := false, narrowed := true }
def ChainSameUptoSaid : Prop := chainSameUptoRow.holds Tryz.pinned (OpenSpec.upto chainSameSpec)

/-- 'griffelaw02.ChainFewest', WHERE WHAT IT READS IS OF BULK AT MOST 1048576: true; the input reads as it did. -/
def chainFewestUptoRow : OpenClaim := { program := "ytfblnfcecfjbpaagreat", sum := "ac4b1afd7ce71b418aad4a06697c83eca2961af66b2fa2bc0c08b70b5a5e9970", func := "griffe/griffelaw02.ChainFewest", spec := "chainFewest", unfollowed := true, recurses := true, plainKeys := false, apart := false, narrowed := true }
def ChainFewestUptoSaid : Prop := chainFewestUptoRow.holds Tryz.pinned (OpenSpec.upto chainFewestSpec)

/-- 'griffelaw02.ChainTrue', WHERE WHAT IT READS IS OF BULK AT MOST 1048576: true; the input reads as it did. -/
def chainTrueUptoRow : OpenClaim := { program := "ytfblnfcecfjbpaagreat", sum := "ac4b1afd7ce71b418aad4a06697c83eca2961af66b2fa2bc0c08b70b5a5e9970", func := "griffe/griffelaw02.ChainTrue", spec := "chainTrue", unfollowed := true, recurses := true, plainKeys := false, apart := false, narrowed := true }
def ChainTrueUptoSaid : Prop := chainTrueUptoRow.holds Tryz.pinned (OpenSpec.upto chainTrueSpec)

/-- 'griffelaw02.ChainMore', WHERE WHAT IT READS IS OF BULK AT MOST 1048576: true; the input reads as it did. -/
def chainMoreUptoRow : OpenClaim := { program := "ytfblnfcecfjbpaagreat", sum := "ac4b1afd7ce71b418aad4a06697c83eca2961af66b2fa2bc0c08b70b5a5e9970", func := "griffe/griffelaw02.ChainMore", spec := "chainMore", unfollowed := true, recurses := true, plainKeys := false, apart := false, narrowed := true }
def ChainMoreUptoSaid : Prop := chainMoreUptoRow.holds Tryz.pinned (OpenSpec.upto chainMoreSpec)

/-- 'griffelaw02.ChainLaid', WHERE WHAT IT READS IS OF BULK AT MOST 1048576: true; the input reads as it did. -/
def chainLaidUptoRow : OpenClaim := { program := "ytfblnfcecfjbpaagreat", sum := "ac4b1afd7ce71b418aad4a06697c83eca2961af66b2fa2bc0c08b70b5a5e9970", func := "griffe/griffelaw02.ChainLaid", spec := "chainLaid", unfollowed := true, recurses := true, plainKeys := false, apart := false, narrowed := true }
def ChainLaidUptoSaid : Prop := chainLaidUptoRow.holds Tryz.pinned (OpenSpec.upto chainLaidSpec)

/-- 'griffelaw02.ChainEach', WHERE WHAT IT READS IS OF BULK AT MOST 1048576: true; the input reads as it did. -/
def chainEachUptoRow : OpenClaim := { program := "ytfblnfcecfjbpaagreat", sum := "ac4b1afd7ce71b418aad4a06697c83eca2961af66b2fa2bc0c08b70b5a5e9970", func := "griffe/griffelaw02.ChainEach", spec := "chainEach", unfollowed := true, recurses := true, plainKeys := false, apart := false, narrowed := true }
def ChainEachUptoSaid : Prop := chainEachUptoRow.holds Tryz.pinned (OpenSpec.upto chainEachSpec)

/-- 'griffelaw02.ChainLoose', WHERE WHAT IT READS IS OF BULK AT MOST 1048576: true; the input reads as it did. -/
def chainLooseUptoRow : OpenClaim := { program := "ytfblnfcecfjbpaagreat", sum := "ac4b1afd7ce71b418aad4a06697c83eca2961af66b2fa2bc0c08b70b5a5e9970", func := "griffe/griffelaw02.ChainLoose", spec := "chainLoose", unfollowed := true, recurses := true, plainKeys := false, apart := false, narrowed := true }
def ChainLooseUptoSaid : Prop := chainLooseUptoRow.holds Tryz.pinned (OpenSpec.upto chainLooseSpec)

/-- 'griffelaw02.ChainPunches', WHERE WHAT IT READS IS OF BULK AT MOST 1048576: true; the input reads as it did. -/
def chainPunchesUptoRow : OpenClaim := { program := "ytfblnfcecfjbpaagreat", sum := "ac4b1afd7ce71b418aad4a06697c83eca2961af66b2fa2bc0c08b70b5a5e9970", func := "griffe/griffelaw02.ChainPunches", spec := "chainPunches", unfollowed := true, recurses := true, plainKeys := false, apart := false, narrowed := true }
def ChainPunchesUptoSaid : Prop := chainPunchesUptoRow.holds Tryz.pinned (OpenSpec.upto chainPunchesSpec)

end Rows
end Go.Proofs.YtfblnfcecfjbpaaGreat
