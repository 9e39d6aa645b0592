/-
  NARROWER THAN 'FOR EVERY INPUT', by the rows' own cells (each row's printed sentence says how): TieMakes: laid · TieWeaves: laid · TieUnweaves: laid · TieFewests: laid · TieWorsts: laid · TieThreads: laid · TieFew: laid · TieGroups: laid · TieBesides: laid · TieEdges: laid · TieBound: laid.
  DERIVED. THE GIVEN ROWS OF THIS SEAT. 11 by the template 'for every input the law returns true; each argument reads behind the call as it read before'; 0 by the template 'total and deterministic' (their statements: YtfgcglmakclnkaaGreatDoorTotals.lean).
  GIVEN WITH THE SEED: the statements are not yours to turn. If you find one false, say at which input.
  Laid BY PROGRAM, IN A SANDBOX (cutbox-rows.mjs): the forced cells as the released guide's own fill.sh prints them over the translation 536f4963fada510e… (all of the seat's roots in one cut). By AI agents, Wed Nov 11 2026. No macro, syntax, notation, axiom, sorry.
-/
import Derived.Test.YtfgcglmakclnkaaGreatDoorChecked
import GoSem.PinnedTables
import GoSem.Claim
import GoSem.ClaimJoined
import GoSem.ClaimMapViews
import Derived.JoinedTies
import Derived.KernelRfl
namespace Go.Proofs.YtfgcglmakclnkaaGreatDoor
/- THE CELL 'sum', in the pinned program and in every row, IS THE sha256 OF THE DUMP (.gsa) THAT YtfgcglmakclnkaaGreatDoorProg.lean LOADS. Nothing in Lean hashes anything: it is a label: what it is worth is what the hold of that sum in a sandbox is worth. -/
noncomputable def Tryz.pinned : Pinned := { name := "ytfgcglmakclnkaagreatdoor", sum := "536f4963fada510e9c42e7620f8694b89723a4eaa754282da991dd4d616f7d3f", checked := Tryz.checked }
namespace Rows
def none {H : Type} : Left H := { results := [], args := [] }

/- WHAT THE LISTED PACKAGE-LEVEL VARIABLES READ AS WHEN THE CALL BEGINS. Each datum BY PROGRAM (the guide's laid-datum.mjs) off the statement by which the dump's own 'gosem.cut.vars' lays the variable. In a bare row this is a premise. The card (YtfgcglmakclnkaaGreatDoorCards.lean) ties it to the program's text. -/
def laid_unicode_utf8_acceptRanges {H : Type} : DataW H := .agg [.agg [.lit (.int .u8 128), .lit (.int .u8 191)], .agg [.lit (.int .u8 160), .lit (.int .u8 191)], .agg [.lit (.int .u8 128), .lit (.int .u8 159)], .agg [.lit (.int .u8 144), .lit (.int .u8 191)], .agg [.lit (.int .u8 128), .lit (.int .u8 143)], .agg [.lit (.int .u8 0), .lit (.int .u8 0)], .agg [.lit (.int .u8 0), .lit (.int .u8 0)], .agg [.lit (.int .u8 0), .lit (.int .u8 0)], .agg [.lit (.int .u8 0), .lit (.int .u8 0)], .agg [.lit (.int .u8 0), .lit (.int .u8 0)], .agg [.lit (.int .u8 0), .lit (.int .u8 0)], .agg [.lit (.int .u8 0), .lit (.int .u8 0)], .agg [.lit (.int .u8 0), .lit (.int .u8 0)], .agg [.lit (.int .u8 0), .lit (.int .u8 0)], .agg [.lit (.int .u8 0), .lit (.int .u8 0)], .agg [.lit (.int .u8 0), .lit (.int .u8 0)]]
/-- One of Go's own tables, pinned by name: the form's constant. -/
def laid_unicode_utf8_first : DataW Unit := Go.Pinned.utf8First

/-- 'griffelaw03.TieMakes': WHATEVER THE INPUT: true; the input reads as it did. -/
def tieMakesSpec : ChangeSpec := { name := "tieMakes", fn := fun _ => fun
  | [d1, d2] => { results := [.lit (.bool true)], args := [d1, d2] }
  | _ => none }
def tieMakesRow : OpenClaim := { program := "ytfgcglmakclnkaagreatdoor", sum := "536f4963fada510e9c42e7620f8694b89723a4eaa754282da991dd4d616f7d3f", func := "griffe/griffelaw03.TieMakes", spec := "tieMakes", inPlace := ["internal/abi.NoEscape", "internal/bytealg.IndexByteString", "internal/bytealg.IndexString"], unfollowed := true, recurses := true, named := ["unicode/utf8.first", "unicode/utf8.acceptRanges", "internal/bytealg.MaxLen"], plainKeys := false, apart := false, laid := [("unicode/utf8.acceptRanges", laid_unicode_utf8_acceptRanges), ("unicode/utf8.first", laid_unicode_utf8_first)] }
def TieMakesSaid : Prop := tieMakesRow.holds Tryz.pinned (OpenSpec.ofChange tieMakesSpec)

/-- ITS FALSE NEIGHBOUR: 'it returns false'. Refute it at one input. -/
def tieMakesWrong : ChangeSpec := { name := "tieMakes", fn := fun _ => fun
  | [d1, d2] => { results := [.lit (.bool false)], args := [d1, d2] }
  | _ => none }
def TieMakesWrongFalsely : Prop := tieMakesRow.holds Tryz.pinned (OpenSpec.ofChange tieMakesWrong)

/-- 'griffelaw03.TieWeaves': WHATEVER THE INPUT: true; the input reads as it did. -/
def tieWeavesSpec : ChangeSpec := { name := "tieWeaves", fn := fun _ => fun
  | [d1, d2, d3] => { results := [.lit (.bool true)], args := [d1, d2, d3] }
  | _ => none }
def tieWeavesRow : OpenClaim := { program := "ytfgcglmakclnkaagreatdoor", sum := "536f4963fada510e9c42e7620f8694b89723a4eaa754282da991dd4d616f7d3f", func := "griffe/griffelaw03.TieWeaves", spec := "tieWeaves", inPlace := ["internal/abi.NoEscape", "internal/bytealg.IndexByteString", "internal/bytealg.IndexString"], unfollowed := true, recurses := true, named := ["unicode/utf8.first", "unicode/utf8.acceptRanges", "internal/bytealg.MaxLen"], plainKeys := false, apart := false, laid := [("unicode/utf8.acceptRanges", laid_unicode_utf8_acceptRanges), ("unicode/utf8.first", laid_unicode_utf8_first)] }
def TieWeavesSaid : Prop := tieWeavesRow.holds Tryz.pinned (OpenSpec.ofChange tieWeavesSpec)

/-- ITS FALSE NEIGHBOUR: 'it returns false'. Refute it at one input. -/
def tieWeavesWrong : ChangeSpec := { name := "tieWeaves", fn := fun _ => fun
  | [d1, d2, d3] => { results := [.lit (.bool false)], args := [d1, d2, d3] }
  | _ => none }
def TieWeavesWrongFalsely : Prop := tieWeavesRow.holds Tryz.pinned (OpenSpec.ofChange tieWeavesWrong)

/-- 'griffelaw03.TieUnweaves': WHATEVER THE INPUT: true; the input reads as it did. -/
def tieUnweavesSpec : ChangeSpec := { name := "tieUnweaves", fn := fun _ => fun
  | [d1, d2] => { results := [.lit (.bool true)], args := [d1, d2] }
  | _ => none }
def tieUnweavesRow : OpenClaim := { program := "ytfgcglmakclnkaagreatdoor", sum := "536f4963fada510e9c42e7620f8694b89723a4eaa754282da991dd4d616f7d3f", func := "griffe/griffelaw03.TieUnweaves", spec := "tieUnweaves", inPlace := ["internal/abi.NoEscape", "internal/bytealg.IndexByteString", "internal/bytealg.IndexString"], unfollowed := true, recurses := true, named := ["unicode/utf8.first", "unicode/utf8.acceptRanges", "internal/bytealg.MaxLen"], plainKeys := false, apart := false, laid := [("unicode/utf8.acceptRanges", laid_unicode_utf8_acceptRanges), ("unicode/utf8.first", laid_unicode_utf8_first)] }
def TieUnweavesSaid : Prop := tieUnweavesRow.holds Tryz.pinned (OpenSpec.ofChange tieUnweavesSpec)

/-- ITS FALSE NEIGHBOUR: 'it returns false'. Refute it at one input. -/
def tieUnweavesWrong : ChangeSpec := { name := "tieUnweaves", fn := fun _ => fun
  | [d1, d2] => { results := [.lit (.bool false)], args := [d1, d2] }
  | _ => none }
def TieUnweavesWrongFalsely : Prop := tieUnweavesRow.holds Tryz.pinned (OpenSpec.ofChange tieUnweavesWrong)

/-- 'griffelaw03.TieFewests': WHATEVER THE INPUT: true; the input reads as it did. -/
def tieFewestsSpec : ChangeSpec := { name := "tieFewests", fn := fun _ => fun
  | [d] => { results := [.lit (.bool true)], args := [d] }
  | _ => none }
def tieFewestsRow : OpenClaim := { program := "ytfgcglmakclnkaagreatdoor", sum := "536f4963fada510e9c42e7620f8694b89723a4eaa754282da991dd4d616f7d3f", func := "griffe/griffelaw03.TieFewests", spec := "tieFewests", inPlace := ["internal/abi.NoEscape", "internal/bytealg.IndexByteString", "internal/bytealg.IndexString"], unfollowed := true, recurses := true, named := ["unicode/utf8.first", "unicode/utf8.acceptRanges", "internal/bytealg.MaxLen"], plainKeys := false, apart := false, laid := [("unicode/utf8.acceptRanges", laid_unicode_utf8_acceptRanges), ("unicode/utf8.first", laid_unicode_utf8_first)] }
def TieFewestsSaid : Prop := tieFewestsRow.holds Tryz.pinned (OpenSpec.ofChange tieFewestsSpec)

/-- ITS FALSE NEIGHBOUR: 'it returns false'. Refute it at one input. -/
def tieFewestsWrong : ChangeSpec := { name := "tieFewests", fn := fun _ => fun
  | [d] => { results := [.lit (.bool false)], args := [d] }
  | _ => none }
def TieFewestsWrongFalsely : Prop := tieFewestsRow.holds Tryz.pinned (OpenSpec.ofChange tieFewestsWrong)

/-- 'griffelaw03.TieWorsts': WHATEVER THE INPUT: true; the input reads as it did. -/
def tieWorstsSpec : ChangeSpec := { name := "tieWorsts", fn := fun _ => fun
  | [d1, d2] => { results := [.lit (.bool true)], args := [d1, d2] }
  | _ => none }
def tieWorstsRow : OpenClaim := { program := "ytfgcglmakclnkaagreatdoor", sum := "536f4963fada510e9c42e7620f8694b89723a4eaa754282da991dd4d616f7d3f", func := "griffe/griffelaw03.TieWorsts", spec := "tieWorsts", inPlace := ["internal/abi.NoEscape", "internal/bytealg.IndexByteString", "internal/bytealg.IndexString"], unfollowed := true, recurses := true, named := ["unicode/utf8.first", "unicode/utf8.acceptRanges", "internal/bytealg.MaxLen"], plainKeys := false, apart := false, laid := [("unicode/utf8.acceptRanges", laid_unicode_utf8_acceptRanges), ("unicode/utf8.first", laid_unicode_utf8_first)] }
def TieWorstsSaid : Prop := tieWorstsRow.holds Tryz.pinned (OpenSpec.ofChange tieWorstsSpec)

/-- ITS FALSE NEIGHBOUR: 'it returns false'. Refute it at one input. -/
def tieWorstsWrong : ChangeSpec := { name := "tieWorsts", fn := fun _ => fun
  | [d1, d2] => { results := [.lit (.bool false)], args := [d1, d2] }
  | _ => none }
def TieWorstsWrongFalsely : Prop := tieWorstsRow.holds Tryz.pinned (OpenSpec.ofChange tieWorstsWrong)

/-- 'griffelaw03.TieThreads': WHATEVER THE INPUT: true; the input reads as it did. -/
def tieThreadsSpec : ChangeSpec := { name := "tieThreads", fn := fun _ => fun
  | [d1, d2] => { results := [.lit (.bool true)], args := [d1, d2] }
  | _ => none }
def tieThreadsRow : OpenClaim := { program := "ytfgcglmakclnkaagreatdoor", sum := "536f4963fada510e9c42e7620f8694b89723a4eaa754282da991dd4d616f7d3f", func := "griffe/griffelaw03.TieThreads", spec := "tieThreads", inPlace := ["internal/abi.NoEscape", "internal/bytealg.IndexByteString", "internal/bytealg.IndexString"], unfollowed := true, recurses := true, named := ["unicode/utf8.first", "unicode/utf8.acceptRanges", "internal/bytealg.MaxLen"], plainKeys := false, apart := false, laid := [("unicode/utf8.acceptRanges", laid_unicode_utf8_acceptRanges), ("unicode/utf8.first", laid_unicode_utf8_first)] }
def TieThreadsSaid : Prop := tieThreadsRow.holds Tryz.pinned (OpenSpec.ofChange tieThreadsSpec)

/-- ITS FALSE NEIGHBOUR: 'it returns false'. Refute it at one input. -/
def tieThreadsWrong : ChangeSpec := { name := "tieThreads", fn := fun _ => fun
  | [d1, d2] => { results := [.lit (.bool false)], args := [d1, d2] }
  | _ => none }
def TieThreadsWrongFalsely : Prop := tieThreadsRow.holds Tryz.pinned (OpenSpec.ofChange tieThreadsWrong)

/-- 'griffelaw03.TieFew': WHATEVER THE INPUT: true; the input reads as it did. -/
def tieFewSpec : ChangeSpec := { name := "tieFew", fn := fun _ => fun
  | [d1, d2] => { results := [.lit (.bool true)], args := [d1, d2] }
  | _ => none }
def tieFewRow : OpenClaim := { program := "ytfgcglmakclnkaagreatdoor", sum := "536f4963fada510e9c42e7620f8694b89723a4eaa754282da991dd4d616f7d3f", func := "griffe/griffelaw03.TieFew", spec := "tieFew", inPlace := ["internal/abi.NoEscape", "internal/bytealg.IndexByteString", "internal/bytealg.IndexString"], unfollowed := true, recurses := true, named := ["unicode/utf8.first", "unicode/utf8.acceptRanges", "internal/bytealg.MaxLen"], plainKeys := false, apart := false, laid := [("unicode/utf8.acceptRanges", laid_unicode_utf8_acceptRanges), ("unicode/utf8.first", laid_unicode_utf8_first)] }
def TieFewSaid : Prop := tieFewRow.holds Tryz.pinned (OpenSpec.ofChange tieFewSpec)

/-- ITS FALSE NEIGHBOUR: 'it returns false'. Refute it at one input. -/
def tieFewWrong : ChangeSpec := { name := "tieFew", fn := fun _ => fun
  | [d1, d2] => { results := [.lit (.bool false)], args := [d1, d2] }
  | _ => none }
def TieFewWrongFalsely : Prop := tieFewRow.holds Tryz.pinned (OpenSpec.ofChange tieFewWrong)

/-- 'griffelaw03.TieGroups': WHATEVER THE INPUT: true; the input reads as it did. -/
def tieGroupsSpec : ChangeSpec := { name := "tieGroups", fn := fun _ => fun
  | [d1, d2] => { results := [.lit (.bool true)], args := [d1, d2] }
  | _ => none }
def tieGroupsRow : OpenClaim := { program := "ytfgcglmakclnkaagreatdoor", sum := "536f4963fada510e9c42e7620f8694b89723a4eaa754282da991dd4d616f7d3f", func := "griffe/griffelaw03.TieGroups", spec := "tieGroups", inPlace := ["internal/abi.NoEscape", "internal/bytealg.IndexByteString", "internal/bytealg.IndexString"], unfollowed := true, recurses := true, named := ["unicode/utf8.first", "unicode/utf8.acceptRanges", "internal/bytealg.MaxLen"], plainKeys := false, apart := false, laid := [("unicode/utf8.acceptRanges", laid_unicode_utf8_acceptRanges), ("unicode/utf8.first", laid_unicode_utf8_first)] }
def TieGroupsSaid : Prop := tieGroupsRow.holds Tryz.pinned (OpenSpec.ofChange tieGroupsSpec)

/-- ITS FALSE NEIGHBOUR: 'it returns false'. Refute it at one input. -/
def tieGroupsWrong : ChangeSpec := { name := "tieGroups", fn := fun _ => fun
  | [d1, d2] => { results := [.lit (.bool false)], args := [d1, d2] }
  | _ => none }
def TieGroupsWrongFalsely : Prop := tieGroupsRow.holds Tryz.pinned (OpenSpec.ofChange tieGroupsWrong)

/-- 'griffelaw03.TieBesides': WHATEVER THE INPUT: true; the input reads as it did. -/
def tieBesidesSpec : ChangeSpec := { name := "tieBesides", fn := fun _ => fun
  | [d1, d2] => { results := [.lit (.bool true)], args := [d1, d2] }
  | _ => none }
def tieBesidesRow : OpenClaim := { program := "ytfgcglmakclnkaagreatdoor", sum := "536f4963fada510e9c42e7620f8694b89723a4eaa754282da991dd4d616f7d3f", func := "griffe/griffelaw03.TieBesides", spec := "tieBesides", inPlace := ["internal/abi.NoEscape", "internal/bytealg.IndexByteString", "internal/bytealg.IndexString"], unfollowed := true, recurses := true, named := ["unicode/utf8.first", "unicode/utf8.acceptRanges", "internal/bytealg.MaxLen"], plainKeys := false, apart := false, laid := [("unicode/utf8.acceptRanges", laid_unicode_utf8_acceptRanges), ("unicode/utf8.first", laid_unicode_utf8_first)] }
def TieBesidesSaid : Prop := tieBesidesRow.holds Tryz.pinned (OpenSpec.ofChange tieBesidesSpec)

/-- ITS FALSE NEIGHBOUR: 'it returns false'. Refute it at one input. -/
def tieBesidesWrong : ChangeSpec := { name := "tieBesides", fn := fun _ => fun
  | [d1, d2] => { results := [.lit (.bool false)], args := [d1, d2] }
  | _ => none }
def TieBesidesWrongFalsely : Prop := tieBesidesRow.holds Tryz.pinned (OpenSpec.ofChange tieBesidesWrong)

/-- 'griffelaw03.TieEdges': WHATEVER THE INPUT: true; the input reads as it did. -/
def tieEdgesSpec : ChangeSpec := { name := "tieEdges", fn := fun _ => fun
  | [d1, d2] => { results := [.lit (.bool true)], args := [d1, d2] }
  | _ => none }
def tieEdgesRow : OpenClaim := { program := "ytfgcglmakclnkaagreatdoor", sum := "536f4963fada510e9c42e7620f8694b89723a4eaa754282da991dd4d616f7d3f", func := "griffe/griffelaw03.TieEdges", spec := "tieEdges", inPlace := ["internal/abi.NoEscape", "internal/bytealg.IndexByteString", "internal/bytealg.IndexString"], unfollowed := true, recurses := true, named := ["unicode/utf8.first", "unicode/utf8.acceptRanges", "internal/bytealg.MaxLen"], plainKeys := false, apart := false, laid := [("unicode/utf8.acceptRanges", laid_unicode_utf8_acceptRanges), ("unicode/utf8.first", laid_unicode_utf8_first)] }
def TieEdgesSaid : Prop := tieEdgesRow.holds Tryz.pinned (OpenSpec.ofChange tieEdgesSpec)

/-- ITS FALSE NEIGHBOUR: 'it returns false'. Refute it at one input. -/
def tieEdgesWrong : ChangeSpec := { name := "tieEdges", fn := fun _ => fun
  | [d1, d2] => { results := [.lit (.bool false)], args := [d1, d2] }
  | _ => none }
def TieEdgesWrongFalsely : Prop := tieEdgesRow.holds Tryz.pinned (OpenSpec.ofChange tieEdgesWrong)

/-- 'griffelaw03.TieBound': WHATEVER THE INPUT: true; the input reads as it did. -/
def tieBoundSpec : ChangeSpec := { name := "tieBound", fn := fun _ => fun
  | [d1, d2] => { results := [.lit (.bool true)], args := [d1, d2] }
  | _ => none }
def tieBoundRow : OpenClaim := { program := "ytfgcglmakclnkaagreatdoor", sum := "536f4963fada510e9c42e7620f8694b89723a4eaa754282da991dd4d616f7d3f", func := "griffe/griffelaw03.TieBound", spec := "tieBound", inPlace := ["internal/abi.NoEscape", "internal/bytealg.IndexByteString", "internal/bytealg.IndexString"], unfollowed := true, recurses := true, named := ["unicode/utf8.first", "unicode/utf8.acceptRanges", "internal/bytealg.MaxLen"], plainKeys := false, apart := false, laid := [("unicode/utf8.acceptRanges", laid_unicode_utf8_acceptRanges), ("unicode/utf8.first", laid_unicode_utf8_first)] }
def TieBoundSaid : Prop := tieBoundRow.holds Tryz.pinned (OpenSpec.ofChange tieBoundSpec)

/-- ITS FALSE NEIGHBOUR: 'it returns false'. Refute it at one input. -/
def tieBoundWrong : ChangeSpec := { name := "tieBound", fn := fun _ => fun
  | [d1, d2] => { results := [.lit (.bool false)], args := [d1, d2] }
  | _ => none }
def TieBoundWrongFalsely : Prop := tieBoundRow.holds Tryz.pinned (OpenSpec.ofChange tieBoundWrong)

/- THE SECOND FORM. 'bulk': how many values and letters a reading holds, each counted each time it is reached (what is shared counts as often as it is met; a slice's spare places count too). A statement '..UptoSaid' is the law's where the arguments, and the package variables that the reading takes, are together of bulk at most 1048576: NARROWER than '..Said'. Prove '..Said' where nothing that the law and all that it calls make is longer than what came in: it says more and counts as full. Else prove '..UptoSaid'. A law counts once. -/
mutual
def uptoBulk {H : Type} : DataW H → Nat
  | .lit (.string bytes) => bytes.length + 1
  | .lit _ => 1
  | .nil => 1
  | .ptr d => uptoBulk d + 1
  | .slice elems spare => uptoBulkAll elems + uptoBulkAll spare + 1
  | .agg parts => uptoBulkAll parts + 1
  | .iface _ d => uptoBulk d + 1
  | .map entries => uptoBulkEntries entries + 1
  | .held _ => 1
def uptoBulkAll {H : Type} : List (DataW H) → Nat
  | [] => 0
  | d :: r => uptoBulk d + uptoBulkAll r
def uptoBulkEntries {H : Type} : List (Lit × DataW H) → Nat
  | [] => 0
  | x :: r => uptoBulkEntry x + uptoBulkEntries r
def uptoBulkEntry {H : Type} : Lit × DataW H → Nat
  | (.string bytes, d) => bytes.length + uptoBulk d + 1
  | (_, d) => uptoBulk d + 1
 end
def uptoSmall : (H : Type) → List (DataW H) → Bool := fun _ ds => decide (uptoBulkAll ds ≤ 1048576)
def OpenSpec.upto (s : _root_.Go.ChangeSpec) : _root_.Go.OpenSpec := { _root_.Go.OpenSpec.ofChange s with cond := some uptoSmall }

/-- 'griffelaw03.TieMakes', WHERE WHAT IT READS IS OF BULK AT MOST 1048576: true; the input reads as it did. -/
def tieMakesUptoRow : OpenClaim := { program := "ytfgcglmakclnkaagreatdoor", sum := "536f4963fada510e9c42e7620f8694b89723a4eaa754282da991dd4d616f7d3f", func := "griffe/griffelaw03.TieMakes", spec := "tieMakes", inPlace := ["internal/abi.NoEscape", "internal/bytealg.IndexByteString", "internal/bytealg.IndexString"], unfollowed := true, recurses := true, named := ["unicode/utf8.first", "unicode/utf8.acceptRanges", "internal/bytealg.MaxLen"], plainKeys := false, apart := false, laid := [("unicode/utf8.acceptRanges", laid_unicode_utf8_acceptRanges), ("unicode/utf8.first", laid_unicode_utf8_first)], narrowed := true }
def TieMakesUptoSaid : Prop := tieMakesUptoRow.holds Tryz.pinned (OpenSpec.upto tieMakesSpec)

/-- 'griffelaw03.TieWeaves', WHERE WHAT IT READS IS OF BULK AT MOST 1048576: true; the input reads as it did. -/
def tieWeavesUptoRow : OpenClaim := { program := "ytfgcglmakclnkaagreatdoor", sum := "536f4963fada510e9c42e7620f8694b89723a4eaa754282da991dd4d616f7d3f", func := "griffe/griffelaw03.TieWeaves", spec := "tieWeaves", inPlace := ["internal/abi.NoEscape", "internal/bytealg.IndexByteString", "internal/bytealg.IndexString"], unfollowed := true, recurses := true, named := ["unicode/utf8.first", "unicode/utf8.acceptRanges", "internal/bytealg.MaxLen"], plainKeys := false, apart := false, laid := [("unicode/utf8.acceptRanges", laid_unicode_utf8_acceptRanges), ("unicode/utf8.first", laid_unicode_utf8_first)], narrowed := true }
def TieWeavesUptoSaid : Prop := tieWeavesUptoRow.holds Tryz.pinned (OpenSpec.upto tieWeavesSpec)

/-- 'griffelaw03.TieUnweaves', WHERE WHAT IT READS IS OF BULK AT MOST 1048576: true; the input reads as it did. -/
def tieUnweavesUptoRow : OpenClaim := { program := "ytfgcglmakclnkaagreatdoor", sum := "536f4963fada510e9c42e7620f8694b89723a4eaa754282da991dd4d616f7d3f", func := "griffe/griffelaw03.TieUnweaves", spec := "tieUnweaves", inPlace := ["internal/abi.NoEscape", "internal/bytealg.IndexByteString", "internal/bytealg.IndexString"], unfollowed := true, recurses := true, named := ["unicode/utf8.first", "unicode/utf8.acceptRanges", "internal/bytealg.MaxLen"], plainKeys := false, apart := false, laid := [("unicode/utf8.acceptRanges", laid_unicode_utf8_acceptRanges), ("unicode/utf8.first", laid_unicode_utf8_first)], narrowed := true }
def TieUnweavesUptoSaid : Prop := tieUnweavesUptoRow.holds Tryz.pinned (OpenSpec.upto tieUnweavesSpec)

/-- 'griffelaw03.TieFewests', WHERE WHAT IT READS IS OF BULK AT MOST 1048576: true; the input reads as it did. -/
def tieFewestsUptoRow : OpenClaim := { program := "ytfgcglmakclnkaagreatdoor", sum := "536f4963fada510e9c42e7620f8694b89723a4eaa754282da991dd4d616f7d3f", func := "griffe/griffelaw03.TieFewests", spec := "tieFewests", inPlace := ["internal/abi.NoEscape", "internal/bytealg.IndexByteString", "internal/bytealg.IndexString"], unfollowed := true, recurses := true, named := ["unicode/utf8.first", "unicode/utf8.acceptRanges", "internal/bytealg.MaxLen"], plainKeys := false, apart := false, laid := [("unicode/utf8.acceptRanges", laid_unicode_utf8_acceptRanges), ("unicode/utf8.first", laid_unicode_utf8_first)], narrowed := true }
def TieFewestsUptoSaid : Prop := tieFewestsUptoRow.holds Tryz.pinned (OpenSpec.upto tieFewestsSpec)

/-- 'griffelaw03.TieWorsts', WHERE WHAT IT READS IS OF BULK AT MOST 1048576: true; the input reads as it did. -/
def tieWorstsUptoRow : OpenClaim := { program := "ytfgcglmakclnkaagreatdoor", sum := "536f4963fada510e9c42e7620f8694b89723a4eaa754282da991dd4d616f7d3f", func := "griffe/griffelaw03.TieWorsts", spec := "tieWorsts", inPlace := ["internal/abi.NoEscape", "internal/bytealg.IndexByteString", "internal/bytealg.IndexString"], unfollowed := true, recurses := true, named := ["unicode/utf8.first", "unicode/utf8.acceptRanges", "internal/bytealg.MaxLen"], plainKeys := false, apart := false, laid := [("unicode/utf8.acceptRanges", laid_unicode_utf8_acceptRanges), ("unicode/utf8.first", laid_unicode_utf8_first)], narrowed := true }
def TieWorstsUptoSaid : Prop := tieWorstsUptoRow.holds Tryz.pinned (OpenSpec.upto tieWorstsSpec)

/-- 'griffelaw03.TieThreads', WHERE WHAT IT READS IS OF BULK AT MOST 1048576: true; the input reads as it did. -/
def tieThreadsUptoRow : OpenClaim := { program := "ytfgcglmakclnkaagreatdoor", sum := "536f4963fada510e9c42e7620f8694b89723a4eaa754282da991dd4d616f7d3f", func := "griffe/griffelaw03.TieThreads", spec := "tieThreads", inPlace := ["internal/abi.NoEscape", "internal/bytealg.IndexByteString", "internal/bytealg.IndexString"], unfollowed := true, recurses := true, named := ["unicode/utf8.first", "unicode/utf8.acceptRanges", "internal/bytealg.MaxLen"], plainKeys := false, apart := false, laid := [("unicode/utf8.acceptRanges", laid_unicode_utf8_acceptRanges), ("unicode/utf8.first", laid_unicode_utf8_first)], narrowed := true }
def TieThreadsUptoSaid : Prop := tieThreadsUptoRow.holds Tryz.pinned (OpenSpec.upto tieThreadsSpec)

/-- 'griffelaw03.TieFew', WHERE WHAT IT READS IS OF BULK AT MOST 1048576: true; the input reads as it did. -/
def tieFewUptoRow : OpenClaim := { program := "ytfgcglmakclnkaagreatdoor", sum := "536f4963fada510e9c42e7620f8694b89723a4eaa754282da991dd4d616f7d3f", func := "griffe/griffelaw03.TieFew", spec := "tieFew", inPlace := ["internal/abi.NoEscape", "internal/bytealg.IndexByteString", "internal/bytealg.IndexString"], unfollowed := true, recurses := true, named := ["unicode/utf8.first", "unicode/utf8.acceptRanges", "internal/bytealg.MaxLen"], plainKeys := false, apart := false, laid := [("unicode/utf8.acceptRanges", laid_unicode_utf8_acceptRanges), ("unicode/utf8.first", laid_unicode_utf8_first)], narrowed := true }
def TieFewUptoSaid : Prop := tieFewUptoRow.holds Tryz.pinned (OpenSpec.upto tieFewSpec)

/-- 'griffelaw03.TieGroups', WHERE WHAT IT READS IS OF BULK AT MOST 1048576: true; the input reads as it did. -/
def tieGroupsUptoRow : OpenClaim := { program := "ytfgcglmakclnkaagreatdoor", sum := "536f4963fada510e9c42e7620f8694b89723a4eaa754282da991dd4d616f7d3f", func := "griffe/griffelaw03.TieGroups", spec := "tieGroups", inPlace := ["internal/abi.NoEscape", "internal/bytealg.IndexByteString", "internal/bytealg.IndexString"], unfollowed := true, recurses := true, named := ["unicode/utf8.first", "unicode/utf8.acceptRanges", "internal/bytealg.MaxLen"], plainKeys := false, apart := false, laid := [("unicode/utf8.acceptRanges", laid_unicode_utf8_acceptRanges), ("unicode/utf8.first", laid_unicode_utf8_first)], narrowed := true }
def TieGroupsUptoSaid : Prop := tieGroupsUptoRow.holds Tryz.pinned (OpenSpec.upto tieGroupsSpec)

/-- 'griffelaw03.TieBesides', WHERE WHAT IT READS IS OF BULK AT MOST 1048576: true; the input reads as it did. -/
def tieBesidesUptoRow : OpenClaim := { program := "ytfgcglmakclnkaagreatdoor", sum := "536f4963fada510e9c42e7620f8694b89723a4eaa754282da991dd4d616f7d3f", func := "griffe/griffelaw03.TieBesides", spec := "tieBesides", inPlace := ["internal/abi.NoEscape", "internal/bytealg.IndexByteString", "internal/bytealg.IndexString"], unfollowed := true, recurses := true, named := ["unicode/utf8.first", "unicode/utf8.acceptRanges", "internal/bytealg.MaxLen"], plainKeys := false, apart := false, laid := [("unicode/utf8.acceptRanges", laid_unicode_utf8_acceptRanges), ("unicode/utf8.first", laid_unicode_utf8_first)], narrowed := true }
def TieBesidesUptoSaid : Prop := tieBesidesUptoRow.holds Tryz.pinned (OpenSpec.upto tieBesidesSpec)

/-- 'griffelaw03.TieEdges', WHERE WHAT IT READS IS OF BULK AT MOST 1048576: true; the input reads as it did. -/
def tieEdgesUptoRow : OpenClaim := { program := "ytfgcglmakclnkaagreatdoor", sum := "536f4963fada510e9c42e7620f8694b89723a4eaa754282da991dd4d616f7d3f", func := "griffe/griffelaw03.TieEdges", spec := "tieEdges", inPlace := ["internal/abi.NoEscape", "internal/bytealg.IndexByteString", "internal/bytealg.IndexString"], unfollowed := true, recurses := true, named := ["unicode/utf8.first", "unicode/utf8.acceptRanges", "internal/bytealg.MaxLen"], plainKeys := false, apart := false, laid := [("unicode/utf8.acceptRanges", laid_unicode_utf8_acceptRanges), ("unicode/utf8.first", laid_unicode_utf8_first)], narrowed := true }
def TieEdgesUptoSaid : Prop := tieEdgesUptoRow.holds Tryz.pinned (OpenSpec.upto tieEdgesSpec)

/-- 'griffelaw03.TieBound', WHERE WHAT IT READS IS OF BULK AT MOST 1048576: true; the input reads as it did. -/
def tieBoundUptoRow : OpenClaim := { program := "ytfgcglmakclnkaagreatdoor", sum := "536f4963fada510e9c42e7620f8694b89723a4eaa754282da991dd4d616f7d3f", func := "griffe/griffelaw03.TieBound", spec := "tieBound", inPlace := ["internal/abi.NoEscape", "internal/bytealg.IndexByteString", "internal/bytealg.IndexString"], unfollowed := true, recurses := true, named := ["unicode/utf8.first", "unicode/utf8.acceptRanges", "internal/bytealg.MaxLen"], plainKeys := false, apart := false, laid := [("unicode/utf8.acceptRanges", laid_unicode_utf8_acceptRanges), ("unicode/utf8.first", laid_unicode_utf8_first)], narrowed := true }
def TieBoundUptoSaid : Prop := tieBoundUptoRow.holds Tryz.pinned (OpenSpec.upto tieBoundSpec)

end Rows
end Go.Proofs.YtfgcglmakclnkaaGreatDoor
