/-
  NARROWER THAN 'FOR EVERY INPUT', by the rows' own cells (each row's printed sentence says how): ShadeCloths: laid · ShadeFills: laid · ShadeRows: laid · ShadeBooks: laid · ShadeProof: laid · ShadeThreads: laid · ShadeMore: laid · ShadeWays: laid.
  DERIVED. THE GIVEN ROWS OF THIS SEAT. 8 by the template 'for every input the law returns true; each argument reads behind the call as it read before'; 0 by the template 'total and deterministic' (their statements: YtohogbdobpnkpaaGreatDoorTotals.lean).
  GIVEN WITH THE SEED: the statements are not yours to turn. If you find one false, say at which input.
  Laid BY PROGRAM, IN A SANDBOX (cutbox-rows.mjs): the forced cells as the released guide's own fill.sh prints them over the translation 8b6b6708c86fb5b5… (all of the seat's roots in one cut). By AI agents, Wed Nov 11 2026. No macro, syntax, notation, axiom, sorry.
-/
import Derived.Test.YtohogbdobpnkpaaGreatDoorChecked
import GoSem.Claim
import GoSem.ClaimJoined
import GoSem.ClaimMapViews
import Derived.JoinedTies
import Derived.KernelRfl
namespace Go.Proofs.YtohogbdobpnkpaaGreatDoor
/- THE CELL 'sum', in the pinned program and in every row, IS THE sha256 OF THE DUMP (.gsa) THAT YtohogbdobpnkpaaGreatDoorProg.lean LOADS. Nothing in Lean hashes anything: it is a label: what it is worth is what the hold of that sum in a sandbox is worth. -/
noncomputable def Tryz.pinned : Pinned := { name := "ytohogbdobpnkpaagreatdoor", sum := "8b6b6708c86fb5b5ff61d56021d00e316288df5d145b701717627994bf6c416c", checked := Tryz.checked }
namespace Rows
def none {H : Type} : Left H := { results := [], args := [] }

/- WHAT THE LISTED PACKAGE-LEVEL VARIABLES READ AS WHEN THE CALL BEGINS. Each datum BY PROGRAM (the guide's laid-datum.mjs) off the statement by which the dump's own 'gosem.cut.vars' lays the variable. In a bare row this is a premise. The card (YtohogbdobpnkpaaGreatDoorCards.lean) ties it to the program's text. -/
def laid_math_bits_deBruijn32tab {H : Type} : DataW H := .agg [.lit (.int .u8 0), .lit (.int .u8 1), .lit (.int .u8 28), .lit (.int .u8 2), .lit (.int .u8 29), .lit (.int .u8 14), .lit (.int .u8 24), .lit (.int .u8 3), .lit (.int .u8 30), .lit (.int .u8 22), .lit (.int .u8 20), .lit (.int .u8 15), .lit (.int .u8 25), .lit (.int .u8 17), .lit (.int .u8 4), .lit (.int .u8 8), .lit (.int .u8 31), .lit (.int .u8 27), .lit (.int .u8 13), .lit (.int .u8 23), .lit (.int .u8 21), .lit (.int .u8 19), .lit (.int .u8 16), .lit (.int .u8 7), .lit (.int .u8 26), .lit (.int .u8 12), .lit (.int .u8 18), .lit (.int .u8 6), .lit (.int .u8 11), .lit (.int .u8 5), .lit (.int .u8 10), .lit (.int .u8 9)]
def laid_math_bits_deBruijn64tab {H : Type} : DataW H := .agg [.lit (.int .u8 0), .lit (.int .u8 1), .lit (.int .u8 56), .lit (.int .u8 2), .lit (.int .u8 57), .lit (.int .u8 49), .lit (.int .u8 28), .lit (.int .u8 3), .lit (.int .u8 61), .lit (.int .u8 58), .lit (.int .u8 42), .lit (.int .u8 50), .lit (.int .u8 38), .lit (.int .u8 29), .lit (.int .u8 17), .lit (.int .u8 4), .lit (.int .u8 62), .lit (.int .u8 47), .lit (.int .u8 59), .lit (.int .u8 36), .lit (.int .u8 45), .lit (.int .u8 43), .lit (.int .u8 51), .lit (.int .u8 22), .lit (.int .u8 53), .lit (.int .u8 39), .lit (.int .u8 33), .lit (.int .u8 30), .lit (.int .u8 24), .lit (.int .u8 18), .lit (.int .u8 12), .lit (.int .u8 5), .lit (.int .u8 63), .lit (.int .u8 55), .lit (.int .u8 48), .lit (.int .u8 27), .lit (.int .u8 60), .lit (.int .u8 41), .lit (.int .u8 37), .lit (.int .u8 16), .lit (.int .u8 46), .lit (.int .u8 35), .lit (.int .u8 44), .lit (.int .u8 21), .lit (.int .u8 52), .lit (.int .u8 32), .lit (.int .u8 23), .lit (.int .u8 11), .lit (.int .u8 54), .lit (.int .u8 26), .lit (.int .u8 40), .lit (.int .u8 15), .lit (.int .u8 34), .lit (.int .u8 20), .lit (.int .u8 31), .lit (.int .u8 10), .lit (.int .u8 25), .lit (.int .u8 14), .lit (.int .u8 19), .lit (.int .u8 9), .lit (.int .u8 13), .lit (.int .u8 8), .lit (.int .u8 7), .lit (.int .u8 6)]

/-- 'griffelaw09.ShadeCloths': WHATEVER THE INPUT: true; the input reads as it did. -/
def shadeClothsSpec : ChangeSpec := { name := "shadeCloths", fn := fun _ => fun
  | [d1, d2] => { results := [.lit (.bool true)], args := [d1, d2] }
  | _ => none }
def shadeClothsRow : OpenClaim := { program := "ytohogbdobpnkpaagreatdoor", sum := "8b6b6708c86fb5b5ff61d56021d00e316288df5d145b701717627994bf6c416c", func := "griffe/griffelaw09.ShadeCloths", spec := "shadeCloths", unfollowed := true, recurses := true, named := ["math/bits.deBruijn32tab", "math/bits.deBruijn64tab"], plainKeys := false, apart := false, laid := [("math/bits.deBruijn32tab", laid_math_bits_deBruijn32tab), ("math/bits.deBruijn64tab", laid_math_bits_deBruijn64tab)] }
def ShadeClothsSaid : Prop := shadeClothsRow.holds Tryz.pinned (OpenSpec.ofChange shadeClothsSpec)

/-- ITS FALSE NEIGHBOUR: 'it returns false'. Refute it at one input. -/
def shadeClothsWrong : ChangeSpec := { name := "shadeCloths", fn := fun _ => fun
  | [d1, d2] => { results := [.lit (.bool false)], args := [d1, d2] }
  | _ => none }
def ShadeClothsWrongFalsely : Prop := shadeClothsRow.holds Tryz.pinned (OpenSpec.ofChange shadeClothsWrong)

/-- 'griffelaw09.ShadeFills': WHATEVER THE INPUT: true; the input reads as it did. -/
def shadeFillsSpec : ChangeSpec := { name := "shadeFills", fn := fun _ => fun
  | [d1, d2, d3] => { results := [.lit (.bool true)], args := [d1, d2, d3] }
  | _ => none }
def shadeFillsRow : OpenClaim := { program := "ytohogbdobpnkpaagreatdoor", sum := "8b6b6708c86fb5b5ff61d56021d00e316288df5d145b701717627994bf6c416c", func := "griffe/griffelaw09.ShadeFills", spec := "shadeFills", unfollowed := true, recurses := true, named := ["math/bits.deBruijn32tab", "math/bits.deBruijn64tab"], plainKeys := false, apart := false, laid := [("math/bits.deBruijn32tab", laid_math_bits_deBruijn32tab), ("math/bits.deBruijn64tab", laid_math_bits_deBruijn64tab)] }
def ShadeFillsSaid : Prop := shadeFillsRow.holds Tryz.pinned (OpenSpec.ofChange shadeFillsSpec)

/-- ITS FALSE NEIGHBOUR: 'it returns false'. Refute it at one input. -/
def shadeFillsWrong : ChangeSpec := { name := "shadeFills", fn := fun _ => fun
  | [d1, d2, d3] => { results := [.lit (.bool false)], args := [d1, d2, d3] }
  | _ => none }
def ShadeFillsWrongFalsely : Prop := shadeFillsRow.holds Tryz.pinned (OpenSpec.ofChange shadeFillsWrong)

/-- 'griffelaw09.ShadeRows': WHATEVER THE INPUT: true; the input reads as it did. -/
def shadeRowsSpec : ChangeSpec := { name := "shadeRows", fn := fun _ => fun
  | [d1, d2] => { results := [.lit (.bool true)], args := [d1, d2] }
  | _ => none }
def shadeRowsRow : OpenClaim := { program := "ytohogbdobpnkpaagreatdoor", sum := "8b6b6708c86fb5b5ff61d56021d00e316288df5d145b701717627994bf6c416c", func := "griffe/griffelaw09.ShadeRows", spec := "shadeRows", unfollowed := true, recurses := true, named := ["math/bits.deBruijn32tab", "math/bits.deBruijn64tab"], plainKeys := false, apart := false, laid := [("math/bits.deBruijn32tab", laid_math_bits_deBruijn32tab), ("math/bits.deBruijn64tab", laid_math_bits_deBruijn64tab)] }
def ShadeRowsSaid : Prop := shadeRowsRow.holds Tryz.pinned (OpenSpec.ofChange shadeRowsSpec)

/-- ITS FALSE NEIGHBOUR: 'it returns false'. Refute it at one input. -/
def shadeRowsWrong : ChangeSpec := { name := "shadeRows", fn := fun _ => fun
  | [d1, d2] => { results := [.lit (.bool false)], args := [d1, d2] }
  | _ => none }
def ShadeRowsWrongFalsely : Prop := shadeRowsRow.holds Tryz.pinned (OpenSpec.ofChange shadeRowsWrong)

/-- 'griffelaw09.ShadeBooks': WHATEVER THE INPUT: true; the input reads as it did. -/
def shadeBooksSpec : ChangeSpec := { name := "shadeBooks", fn := fun _ => fun
  | [d1, d2] => { results := [.lit (.bool true)], args := [d1, d2] }
  | _ => none }
def shadeBooksRow : OpenClaim := { program := "ytohogbdobpnkpaagreatdoor", sum := "8b6b6708c86fb5b5ff61d56021d00e316288df5d145b701717627994bf6c416c", func := "griffe/griffelaw09.ShadeBooks", spec := "shadeBooks", unfollowed := true, recurses := true, named := ["math/bits.deBruijn32tab", "math/bits.deBruijn64tab"], plainKeys := false, apart := false, laid := [("math/bits.deBruijn32tab", laid_math_bits_deBruijn32tab), ("math/bits.deBruijn64tab", laid_math_bits_deBruijn64tab)] }
def ShadeBooksSaid : Prop := shadeBooksRow.holds Tryz.pinned (OpenSpec.ofChange shadeBooksSpec)

/-- ITS FALSE NEIGHBOUR: 'it returns false'. Refute it at one input. -/
def shadeBooksWrong : ChangeSpec := { name := "shadeBooks", fn := fun _ => fun
  | [d1, d2] => { results := [.lit (.bool false)], args := [d1, d2] }
  | _ => none }
def ShadeBooksWrongFalsely : Prop := shadeBooksRow.holds Tryz.pinned (OpenSpec.ofChange shadeBooksWrong)

/-- 'griffelaw09.ShadeProof': WHATEVER THE INPUT: true; the input reads as it did. -/
def shadeProofSpec : ChangeSpec := { name := "shadeProof", fn := fun _ => fun
  | [d1, d2] => { results := [.lit (.bool true)], args := [d1, d2] }
  | _ => none }
def shadeProofRow : OpenClaim := { program := "ytohogbdobpnkpaagreatdoor", sum := "8b6b6708c86fb5b5ff61d56021d00e316288df5d145b701717627994bf6c416c", func := "griffe/griffelaw09.ShadeProof", spec := "shadeProof", unfollowed := true, recurses := true, named := ["math/bits.deBruijn32tab", "math/bits.deBruijn64tab"], plainKeys := false, apart := false, laid := [("math/bits.deBruijn32tab", laid_math_bits_deBruijn32tab), ("math/bits.deBruijn64tab", laid_math_bits_deBruijn64tab)] }
def ShadeProofSaid : Prop := shadeProofRow.holds Tryz.pinned (OpenSpec.ofChange shadeProofSpec)

/-- ITS FALSE NEIGHBOUR: 'it returns false'. Refute it at one input. -/
def shadeProofWrong : ChangeSpec := { name := "shadeProof", fn := fun _ => fun
  | [d1, d2] => { results := [.lit (.bool false)], args := [d1, d2] }
  | _ => none }
def ShadeProofWrongFalsely : Prop := shadeProofRow.holds Tryz.pinned (OpenSpec.ofChange shadeProofWrong)

/-- 'griffelaw09.ShadeThreads': WHATEVER THE INPUT: true; the input reads as it did. -/
def shadeThreadsSpec : ChangeSpec := { name := "shadeThreads", fn := fun _ => fun
  | [d1, d2, d3] => { results := [.lit (.bool true)], args := [d1, d2, d3] }
  | _ => none }
def shadeThreadsRow : OpenClaim := { program := "ytohogbdobpnkpaagreatdoor", sum := "8b6b6708c86fb5b5ff61d56021d00e316288df5d145b701717627994bf6c416c", func := "griffe/griffelaw09.ShadeThreads", spec := "shadeThreads", unfollowed := true, recurses := true, named := ["math/bits.deBruijn32tab", "math/bits.deBruijn64tab"], plainKeys := false, apart := false, laid := [("math/bits.deBruijn32tab", laid_math_bits_deBruijn32tab), ("math/bits.deBruijn64tab", laid_math_bits_deBruijn64tab)] }
def ShadeThreadsSaid : Prop := shadeThreadsRow.holds Tryz.pinned (OpenSpec.ofChange shadeThreadsSpec)

/-- ITS FALSE NEIGHBOUR: 'it returns false'. Refute it at one input. -/
def shadeThreadsWrong : ChangeSpec := { name := "shadeThreads", fn := fun _ => fun
  | [d1, d2, d3] => { results := [.lit (.bool false)], args := [d1, d2, d3] }
  | _ => none }
def ShadeThreadsWrongFalsely : Prop := shadeThreadsRow.holds Tryz.pinned (OpenSpec.ofChange shadeThreadsWrong)

/-- 'griffelaw09.ShadeMore': WHATEVER THE INPUT: true; the input reads as it did. -/
def shadeMoreSpec : ChangeSpec := { name := "shadeMore", fn := fun _ => fun
  | [d1, d2] => { results := [.lit (.bool true)], args := [d1, d2] }
  | _ => none }
def shadeMoreRow : OpenClaim := { program := "ytohogbdobpnkpaagreatdoor", sum := "8b6b6708c86fb5b5ff61d56021d00e316288df5d145b701717627994bf6c416c", func := "griffe/griffelaw09.ShadeMore", spec := "shadeMore", unfollowed := true, recurses := true, named := ["math/bits.deBruijn32tab", "math/bits.deBruijn64tab"], plainKeys := false, apart := false, laid := [("math/bits.deBruijn32tab", laid_math_bits_deBruijn32tab), ("math/bits.deBruijn64tab", laid_math_bits_deBruijn64tab)] }
def ShadeMoreSaid : Prop := shadeMoreRow.holds Tryz.pinned (OpenSpec.ofChange shadeMoreSpec)

/-- ITS FALSE NEIGHBOUR: 'it returns false'. Refute it at one input. -/
def shadeMoreWrong : ChangeSpec := { name := "shadeMore", fn := fun _ => fun
  | [d1, d2] => { results := [.lit (.bool false)], args := [d1, d2] }
  | _ => none }
def ShadeMoreWrongFalsely : Prop := shadeMoreRow.holds Tryz.pinned (OpenSpec.ofChange shadeMoreWrong)

/-- 'griffelaw09.ShadeWays': WHATEVER THE INPUT: true; the input reads as it did. -/
def shadeWaysSpec : ChangeSpec := { name := "shadeWays", fn := fun _ => fun
  | [d1, d2, d3] => { results := [.lit (.bool true)], args := [d1, d2, d3] }
  | _ => none }
def shadeWaysRow : OpenClaim := { program := "ytohogbdobpnkpaagreatdoor", sum := "8b6b6708c86fb5b5ff61d56021d00e316288df5d145b701717627994bf6c416c", func := "griffe/griffelaw09.ShadeWays", spec := "shadeWays", unfollowed := true, recurses := true, named := ["math/bits.deBruijn32tab", "math/bits.deBruijn64tab"], plainKeys := false, apart := false, laid := [("math/bits.deBruijn32tab", laid_math_bits_deBruijn32tab), ("math/bits.deBruijn64tab", laid_math_bits_deBruijn64tab)] }
def ShadeWaysSaid : Prop := shadeWaysRow.holds Tryz.pinned (OpenSpec.ofChange shadeWaysSpec)

/-- ITS FALSE NEIGHBOUR: 'it returns false'. Refute it at one input. -/
def shadeWaysWrong : ChangeSpec := { name := "shadeWays", fn := fun _ => fun
  | [d1, d2, d3] => { results := [.lit (.bool false)], args := [d1, d2, d3] }
  | _ => none }
def ShadeWaysWrongFalsely : Prop := shadeWaysRow.holds Tryz.pinned (OpenSpec.ofChange shadeWaysWrong)

/- THE SECOND FORM. 'bulk': how many values and letters a reading holds, each counted each time it is reached (what is shared counts as often as it is met; a slice's spare places count too). A statement '..UptoSaid' is the law's where the arguments, and the package variables that the reading takes, are together of bulk at most 1048576: NARROWER than '..Said'. Prove '..Said' where nothing that the law and all that it calls make is longer than what came in: it says more and counts as full. Else prove '..UptoSaid'. A law counts once. -/
mutual
def uptoBulk {H : Type} : DataW H → Nat
  | .lit (.string bytes) => bytes.length + 1
  | .lit _ => 1
  | .nil => 1
  | .ptr d => uptoBulk d + 1
  | .slice elems spare => uptoBulkAll elems + uptoBulkAll spare + 1
  | .agg parts => uptoBulkAll parts + 1
  | .iface _ d => uptoBulk d + 1
  | .map entries => uptoBulkEntries entries + 1
  | .held _ => 1
def uptoBulkAll {H : Type} : List (DataW H) → Nat
  | [] => 0
  | d :: r => uptoBulk d + uptoBulkAll r
def uptoBulkEntries {H : Type} : List (Lit × DataW H) → Nat
  | [] => 0
  | x :: r => uptoBulkEntry x + uptoBulkEntries r
def uptoBulkEntry {H : Type} : Lit × DataW H → Nat
  | (.string bytes, d) => bytes.length + uptoBulk d + 1
  | (_, d) => uptoBulk d + 1
 end
def uptoSmall : (H : Type) → List (DataW H) → Bool := fun _ ds => decide (uptoBulkAll ds ≤ 1048576)
def OpenSpec.upto (s : _root_.Go.ChangeSpec) : _root_.Go.OpenSpec := { _root_.Go.OpenSpec.ofChange s with cond := some uptoSmall }

/-- 'griffelaw09.ShadeCloths', WHERE WHAT IT READS IS OF BULK AT MOST 1048576: true; the input reads as it did. -/
def shadeClothsUptoRow : OpenClaim := { program := "ytohogbdobpnkpaagreatdoor", sum := "8b6b6708c86fb5b5ff61d56021d00e316288df5d145b701717627994bf6c416c", func := "griffe/griffelaw09.ShadeCloths", spec := "shadeCloths", unfollowed := true, recurses := true, named := ["math/bits.deBruijn32tab", "math/bits.deBruijn64tab"], plainKeys := false, apart := false, laid := [("math/bits.deBruijn32tab", laid_math_bits_deBruijn32tab), ("math/bits.deBruijn64tab", laid_math_bits_deBruijn64tab)], narrowed := true }
def ShadeClothsUptoSaid : Prop := shadeClothsUptoRow.holds Tryz.pinned (OpenSpec.upto shadeClothsSpec)

/-- 'griffelaw09.ShadeFills', WHERE WHAT IT READS IS OF BULK AT MOST 1048576: true; the input reads as it did. -/
def shadeFillsUptoRow : OpenClaim := { program := "ytohogbdobpnkpaagreatdoor", sum := "8b6b6708c86fb5b5ff61d56021d00e316288df5d145b701717627994bf6c416c", func := "griffe/griffelaw09.ShadeFills", spec := "shadeFills", unfollowed := true, recurses := true, named := ["math/bits.deBruijn32tab", "math/bits.deBruijn64tab"], plainKeys := false, apart := false, laid := [("math/bits.deBruijn32tab", laid_math_bits_deBruijn32tab), ("math/bits.deBruijn64tab", laid_math_bits_deBruijn64tab)], narrowed := true }
def ShadeFillsUptoSaid : Prop := shadeFillsUptoRow.holds Tryz.pinned (OpenSpec.upto shadeFillsSpec)

/-- 'griffelaw09.ShadeRows', WHERE WHAT IT READS IS OF BULK AT MOST 1048576: true; the input reads as it did. -/
def shadeRowsUptoRow : OpenClaim := { program := "ytohogbdobpnkpaagreatdoor", sum := "8b6b6708c86fb5b5ff61d56021d00e316288df5d145b701717627994bf6c416c", func := "griffe/griffelaw09.ShadeRows", spec := "shadeRows", unfollowed := true, recurses := true, named := ["math/bits.deBruijn32tab", "math/bits.deBruijn64tab"], plainKeys := false, apart := false, laid := [("math/bits.deBruijn32tab", laid_math_bits_deBruijn32tab), ("math/bits.deBruijn64tab", laid_math_bits_deBruijn64tab)], narrowed := true }
def ShadeRowsUptoSaid : Prop := shadeRowsUptoRow.holds Tryz.pinned (OpenSpec.upto shadeRowsSpec)

/-- 'griffelaw09.ShadeBooks', WHERE WHAT IT READS IS OF BULK AT MOST 1048576: true; the input reads as it did. -/
def shadeBooksUptoRow : OpenClaim := { program := "ytohogbdobpnkpaagreatdoor", sum := "8b6b6708c86fb5b5ff61d56021d00e316288df5d145b701717627994bf6c416c", func := "griffe/griffelaw09.ShadeBooks", spec := "shadeBooks", unfollowed := true, recurses := true, named := ["math/bits.deBruijn32tab", "math/bits.deBruijn64tab"], plainKeys := false, apart := false, laid := [("math/bits.deBruijn32tab", laid_math_bits_deBruijn32tab), ("math/bits.deBruijn64tab", laid_math_bits_deBruijn64tab)], narrowed := true }
def ShadeBooksUptoSaid : Prop := shadeBooksUptoRow.holds Tryz.pinned (OpenSpec.upto shadeBooksSpec)

/-- 'griffelaw09.ShadeProof', WHERE WHAT IT READS IS OF BULK AT MOST 1048576: true; the input reads as it did. -/
def shadeProofUptoRow : OpenClaim := { program := "ytohogbdobpnkpaagreatdoor", sum := "8b6b6708c86fb5b5ff61d56021d00e316288df5d145b701717627994bf6c416c", func := "griffe/griffelaw09.ShadeProof", spec := "shadeProof", unfollowed := true, recurses := true, named := ["math/bits.deBruijn32tab", "math/bits.deBruijn64tab"], plainKeys := false, apart := false, laid := [("math/bits.deBruijn32tab", laid_math_bits_deBruijn32tab), ("math/bits.deBruijn64tab", laid_math_bits_deBruijn64tab)], narrowed := true }
def ShadeProofUptoSaid : Prop := shadeProofUptoRow.holds Tryz.pinned (OpenSpec.upto shadeProofSpec)

/-- 'griffelaw09.ShadeThreads', WHERE WHAT IT READS IS OF BULK AT MOST 1048576: true; the input reads as it did. -/
def shadeThreadsUptoRow : OpenClaim := { program := "ytohogbdobpnkpaagreatdoor", sum := "8b6b6708c86fb5b5ff61d56021d00e316288df5d145b701717627994bf6c416c", func := "griffe/griffelaw09.ShadeThreads", spec := "shadeThreads", unfollowed := true, recurses := true, named := ["math/bits.deBruijn32tab", "math/bits.deBruijn64tab"], plainKeys := false, apart := false, laid := [("math/bits.deBruijn32tab", laid_math_bits_deBruijn32tab), ("math/bits.deBruijn64tab", laid_math_bits_deBruijn64tab)], narrowed := true }
def ShadeThreadsUptoSaid : Prop := shadeThreadsUptoRow.holds Tryz.pinned (OpenSpec.upto shadeThreadsSpec)

/-- 'griffelaw09.ShadeMore', WHERE WHAT IT READS IS OF BULK AT MOST 1048576: true; the input reads as it did. -/
def shadeMoreUptoRow : OpenClaim := { program := "ytohogbdobpnkpaagreatdoor", sum := "8b6b6708c86fb5b5ff61d56021d00e316288df5d145b701717627994bf6c416c", func := "griffe/griffelaw09.ShadeMore", spec := "shadeMore", unfollowed := true, recurses := true, named := ["math/bits.deBruijn32tab", "math/bits.deBruijn64tab"], plainKeys := false, apart := false, laid := [("math/bits.deBruijn32tab", laid_math_bits_deBruijn32tab), ("math/bits.deBruijn64tab", laid_math_bits_deBruijn64tab)], narrowed := true }
def ShadeMoreUptoSaid : Prop := shadeMoreUptoRow.holds Tryz.pinned (OpenSpec.upto shadeMoreSpec)

/-- 'griffelaw09.ShadeWays', WHERE WHAT IT READS IS OF BULK AT MOST 1048576: true; the input reads as it did. -/
def shadeWaysUptoRow : OpenClaim := { program := "ytohogbdobpnkpaagreatdoor", sum := "8b6b6708c86fb5b5ff61d56021d00e316288df5d145b701717627994bf6c416c", func := "griffe/griffelaw09.ShadeWays", spec := "shadeWays", unfollowed := true, recurses := true, named := ["math/bits.deBruijn32tab", "math/bits.deBruijn64tab"], plainKeys := false, apart := false, laid := [("math/bits.deBruijn32tab", laid_math_bits_deBruijn32tab), ("math/bits.deBruijn64tab", laid_math_bits_deBruijn64tab)], narrowed := true }
def ShadeWaysUptoSaid : Prop := shadeWaysUptoRow.holds Tryz.pinned (OpenSpec.upto shadeWaysSpec)

end Rows
end Go.Proofs.YtohogbdobpnkpaaGreatDoor
