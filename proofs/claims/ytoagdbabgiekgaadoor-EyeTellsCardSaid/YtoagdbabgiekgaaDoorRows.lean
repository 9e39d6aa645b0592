/-
  NARROWER THAN 'FOR EVERY INPUT', by the rows' own cells (each row's printed sentence says how): EyeRedraws: laid · EyeOuts: laid · EyeLayers: laid · EyeRight: laid · EyeTells: laid · EyeTangle: laid · EyeFewer: laid · EyeTrue: laid.
  DERIVED. THE GIVEN ROWS OF THIS SEAT. 8 by the template 'for every input the law returns true; each argument reads behind the call as it read before'; 0 by the template 'total and deterministic' (their statements: YtoagdbabgiekgaaDoorTotals.lean).
  GIVEN WITH THE SEED: the statements are not yours to turn. If you find one false, say at which input.
  Laid BY PROGRAM, IN A SANDBOX (cutbox-rows.mjs): the forced cells as the released guide's own fill.sh prints them over the translation c4162b99e1e62642… (all of the seat's roots in one cut). By AI agents, Wed Nov 11 2026. No macro, syntax, notation, axiom, sorry.
-/
import Derived.Test.YtoagdbabgiekgaaDoorChecked
import GoSem.PinnedTables
import GoSem.Claim
import GoSem.ClaimJoined
import GoSem.ClaimMapViews
import Derived.JoinedTies
import Derived.KernelRfl
namespace Go.Proofs.YtoagdbabgiekgaaDoor
/- THE CELL 'sum', in the pinned program and in every row, IS THE sha256 OF THE DUMP (.gsa) THAT YtoagdbabgiekgaaDoorProg.lean LOADS. Nothing in Lean hashes anything: it is a label: what it is worth is what the hold of that sum in a sandbox is worth. -/
noncomputable def Tryd.pinned : Pinned := { name := "ytoagdbabgiekgaadoor", sum := "c4162b99e1e6264292cbc2f3981bd3c005446800bc1b9071bcfe14bdd1bd61f5", checked := Tryd.checked }
namespace Rows
def none {H : Type} : Left H := { results := [], args := [] }

/- WHAT THE LISTED PACKAGE-LEVEL VARIABLES READ AS WHEN THE CALL BEGINS. Each datum BY PROGRAM (the guide's laid-datum.mjs) off the statement by which the dump's own 'gosem.cut.vars' lays the variable. In a bare row this is a premise. The card (YtoagdbabgiekgaaDoorCards.lean) ties it to the program's text. -/
def laid_unicode_utf8_acceptRanges {H : Type} : DataW H := .agg [.agg [.lit (.int .u8 128), .lit (.int .u8 191)], .agg [.lit (.int .u8 160), .lit (.int .u8 191)], .agg [.lit (.int .u8 128), .lit (.int .u8 159)], .agg [.lit (.int .u8 144), .lit (.int .u8 191)], .agg [.lit (.int .u8 128), .lit (.int .u8 143)], .agg [.lit (.int .u8 0), .lit (.int .u8 0)], .agg [.lit (.int .u8 0), .lit (.int .u8 0)], .agg [.lit (.int .u8 0), .lit (.int .u8 0)], .agg [.lit (.int .u8 0), .lit (.int .u8 0)], .agg [.lit (.int .u8 0), .lit (.int .u8 0)], .agg [.lit (.int .u8 0), .lit (.int .u8 0)], .agg [.lit (.int .u8 0), .lit (.int .u8 0)], .agg [.lit (.int .u8 0), .lit (.int .u8 0)], .agg [.lit (.int .u8 0), .lit (.int .u8 0)], .agg [.lit (.int .u8 0), .lit (.int .u8 0)], .agg [.lit (.int .u8 0), .lit (.int .u8 0)]]
/-- One of Go's own tables, pinned by name: the form's constant. -/
def laid_unicode_utf8_first : DataW Unit := Go.Pinned.utf8First

/-- 'griffelaw11.EyeRedraws': WHATEVER THE INPUT: true; the input reads as it did. -/
def eyeRedrawsSpec : ChangeSpec := { name := "eyeRedraws", fn := fun _ => fun
  | [d1, d2] => { results := [.lit (.bool true)], args := [d1, d2] }
  | _ => none }
def eyeRedrawsRow : OpenClaim := { program := "ytoagdbabgiekgaadoor", sum := "c4162b99e1e6264292cbc2f3981bd3c005446800bc1b9071bcfe14bdd1bd61f5", func := "griffe/griffelaw11.EyeRedraws", spec := "eyeRedraws", inPlace := ["internal/abi.NoEscape", "internal/bytealg.IndexByteString", "internal/bytealg.IndexString"], unfollowed := true, recurses := true, named := ["unicode/utf8.first", "unicode/utf8.acceptRanges", "internal/bytealg.MaxLen"], apart := false, laid := [("unicode/utf8.acceptRanges", laid_unicode_utf8_acceptRanges), ("unicode/utf8.first", laid_unicode_utf8_first)] }
def EyeRedrawsSaid : Prop := eyeRedrawsRow.holds Tryd.pinned (OpenSpec.ofChange eyeRedrawsSpec)

/-- ITS FALSE NEIGHBOUR: 'it returns false'. Refute it at one input. -/
def eyeRedrawsWrong : ChangeSpec := { name := "eyeRedraws", fn := fun _ => fun
  | [d1, d2] => { results := [.lit (.bool false)], args := [d1, d2] }
  | _ => none }
def EyeRedrawsWrongFalsely : Prop := eyeRedrawsRow.holds Tryd.pinned (OpenSpec.ofChange eyeRedrawsWrong)

/-- 'griffelaw11.EyeOuts': WHATEVER THE INPUT: true; the input reads as it did. -/
def eyeOutsSpec : ChangeSpec := { name := "eyeOuts", fn := fun _ => fun
  | [d] => { results := [.lit (.bool true)], args := [d] }
  | _ => none }
def eyeOutsRow : OpenClaim := { program := "ytoagdbabgiekgaadoor", sum := "c4162b99e1e6264292cbc2f3981bd3c005446800bc1b9071bcfe14bdd1bd61f5", func := "griffe/griffelaw11.EyeOuts", spec := "eyeOuts", inPlace := ["internal/abi.NoEscape", "internal/bytealg.IndexByteString", "internal/bytealg.IndexString"], unfollowed := true, recurses := true, named := ["unicode/utf8.first", "unicode/utf8.acceptRanges", "internal/bytealg.MaxLen"], apart := false, laid := [("unicode/utf8.acceptRanges", laid_unicode_utf8_acceptRanges), ("unicode/utf8.first", laid_unicode_utf8_first)] }
def EyeOutsSaid : Prop := eyeOutsRow.holds Tryd.pinned (OpenSpec.ofChange eyeOutsSpec)

/-- ITS FALSE NEIGHBOUR: 'it returns false'. Refute it at one input. -/
def eyeOutsWrong : ChangeSpec := { name := "eyeOuts", fn := fun _ => fun
  | [d] => { results := [.lit (.bool false)], args := [d] }
  | _ => none }
def EyeOutsWrongFalsely : Prop := eyeOutsRow.holds Tryd.pinned (OpenSpec.ofChange eyeOutsWrong)

/-- 'griffelaw11.EyeLayers': WHATEVER THE INPUT: true; the input reads as it did. -/
def eyeLayersSpec : ChangeSpec := { name := "eyeLayers", fn := fun _ => fun
  | [d] => { results := [.lit (.bool true)], args := [d] }
  | _ => none }
def eyeLayersRow : OpenClaim := { program := "ytoagdbabgiekgaadoor", sum := "c4162b99e1e6264292cbc2f3981bd3c005446800bc1b9071bcfe14bdd1bd61f5", func := "griffe/griffelaw11.EyeLayers", spec := "eyeLayers", inPlace := ["internal/abi.NoEscape", "internal/bytealg.IndexByteString", "internal/bytealg.IndexString"], unfollowed := true, recurses := true, named := ["unicode/utf8.first", "unicode/utf8.acceptRanges", "internal/bytealg.MaxLen"], apart := false, laid := [("unicode/utf8.acceptRanges", laid_unicode_utf8_acceptRanges), ("unicode/utf8.first", laid_unicode_utf8_first)] }
def EyeLayersSaid : Prop := eyeLayersRow.holds Tryd.pinned (OpenSpec.ofChange eyeLayersSpec)

/-- ITS FALSE NEIGHBOUR: 'it returns false'. Refute it at one input. -/
def eyeLayersWrong : ChangeSpec := { name := "eyeLayers", fn := fun _ => fun
  | [d] => { results := [.lit (.bool false)], args := [d] }
  | _ => none }
def EyeLayersWrongFalsely : Prop := eyeLayersRow.holds Tryd.pinned (OpenSpec.ofChange eyeLayersWrong)

/-- 'griffelaw11.EyeRight': WHATEVER THE INPUT: true; the input reads as it did. -/
def eyeRightSpec : ChangeSpec := { name := "eyeRight", fn := fun _ => fun
  | [d1, d2] => { results := [.lit (.bool true)], args := [d1, d2] }
  | _ => none }
def eyeRightRow : OpenClaim := { program := "ytoagdbabgiekgaadoor", sum := "c4162b99e1e6264292cbc2f3981bd3c005446800bc1b9071bcfe14bdd1bd61f5", func := "griffe/griffelaw11.EyeRight", spec := "eyeRight", inPlace := ["internal/abi.NoEscape", "internal/bytealg.IndexByteString", "internal/bytealg.IndexString"], unfollowed := true, recurses := true, named := ["unicode/utf8.first", "unicode/utf8.acceptRanges", "internal/bytealg.MaxLen"], apart := false, laid := [("unicode/utf8.acceptRanges", laid_unicode_utf8_acceptRanges), ("unicode/utf8.first", laid_unicode_utf8_first)] }
def EyeRightSaid : Prop := eyeRightRow.holds Tryd.pinned (OpenSpec.ofChange eyeRightSpec)

/-- ITS FALSE NEIGHBOUR: 'it returns false'. Refute it at one input. -/
def eyeRightWrong : ChangeSpec := { name := "eyeRight", fn := fun _ => fun
  | [d1, d2] => { results := [.lit (.bool false)], args := [d1, d2] }
  | _ => none }
def EyeRightWrongFalsely : Prop := eyeRightRow.holds Tryd.pinned (OpenSpec.ofChange eyeRightWrong)

/-- 'griffelaw11.EyeTells': WHATEVER THE INPUT: true; the input reads as it did. -/
def eyeTellsSpec : ChangeSpec := { name := "eyeTells", fn := fun _ => fun
  | [d1, d2] => { results := [.lit (.bool true)], args := [d1, d2] }
  | _ => none }
def eyeTellsRow : OpenClaim := { program := "ytoagdbabgiekgaadoor", sum := "c4162b99e1e6264292cbc2f3981bd3c005446800bc1b9071bcfe14bdd1bd61f5", func := "griffe/griffelaw11.EyeTells", spec := "eyeTells", inPlace := ["internal/abi.NoEscape", "internal/bytealg.IndexByteString", "internal/bytealg.IndexString"], unfollowed := true, recurses := true, named := ["unicode/utf8.first", "unicode/utf8.acceptRanges", "internal/bytealg.MaxLen"], apart := false, laid := [("unicode/utf8.acceptRanges", laid_unicode_utf8_acceptRanges), ("unicode/utf8.first", laid_unicode_utf8_first)] }
def EyeTellsSaid : Prop := eyeTellsRow.holds Tryd.pinned (OpenSpec.ofChange eyeTellsSpec)

/-- ITS FALSE NEIGHBOUR: 'it returns false'. Refute it at one input. -/
def eyeTellsWrong : ChangeSpec := { name := "eyeTells", fn := fun _ => fun
  | [d1, d2] => { results := [.lit (.bool false)], args := [d1, d2] }
  | _ => none }
def EyeTellsWrongFalsely : Prop := eyeTellsRow.holds Tryd.pinned (OpenSpec.ofChange eyeTellsWrong)

/-- 'griffelaw11.EyeTangle': WHATEVER THE INPUT: true; the input reads as it did. -/
def eyeTangleSpec : ChangeSpec := { name := "eyeTangle", fn := fun _ => fun
  | [d] => { results := [.lit (.bool true)], args := [d] }
  | _ => none }
def eyeTangleRow : OpenClaim := { program := "ytoagdbabgiekgaadoor", sum := "c4162b99e1e6264292cbc2f3981bd3c005446800bc1b9071bcfe14bdd1bd61f5", func := "griffe/griffelaw11.EyeTangle", spec := "eyeTangle", inPlace := ["internal/abi.NoEscape", "internal/bytealg.IndexByteString", "internal/bytealg.IndexString"], unfollowed := true, recurses := true, named := ["unicode/utf8.first", "unicode/utf8.acceptRanges", "internal/bytealg.MaxLen"], apart := false, laid := [("unicode/utf8.acceptRanges", laid_unicode_utf8_acceptRanges), ("unicode/utf8.first", laid_unicode_utf8_first)] }
def EyeTangleSaid : Prop := eyeTangleRow.holds Tryd.pinned (OpenSpec.ofChange eyeTangleSpec)

/-- ITS FALSE NEIGHBOUR: 'it returns false'. Refute it at one input. -/
def eyeTangleWrong : ChangeSpec := { name := "eyeTangle", fn := fun _ => fun
  | [d] => { results := [.lit (.bool false)], args := [d] }
  | _ => none }
def EyeTangleWrongFalsely : Prop := eyeTangleRow.holds Tryd.pinned (OpenSpec.ofChange eyeTangleWrong)

/-- 'griffelaw11.EyeFewer': WHATEVER THE INPUT: true; the input reads as it did. -/
def eyeFewerSpec : ChangeSpec := { name := "eyeFewer", fn := fun _ => fun
  | [d1, d2, d3] => { results := [.lit (.bool true)], args := [d1, d2, d3] }
  | _ => none }
def eyeFewerRow : OpenClaim := { program := "ytoagdbabgiekgaadoor", sum := "c4162b99e1e6264292cbc2f3981bd3c005446800bc1b9071bcfe14bdd1bd61f5", func := "griffe/griffelaw11.EyeFewer", spec := "eyeFewer", inPlace := ["internal/abi.NoEscape", "internal/bytealg.IndexByteString", "internal/bytealg.IndexString"], unfollowed := true, recurses := true, named := ["unicode/utf8.first", "unicode/utf8.acceptRanges", "internal/bytealg.MaxLen"], apart := false, laid := [("unicode/utf8.acceptRanges", laid_unicode_utf8_acceptRanges), ("unicode/utf8.first", laid_unicode_utf8_first)] }
def EyeFewerSaid : Prop := eyeFewerRow.holds Tryd.pinned (OpenSpec.ofChange eyeFewerSpec)

/-- ITS FALSE NEIGHBOUR: 'it returns false'. Refute it at one input. -/
def eyeFewerWrong : ChangeSpec := { name := "eyeFewer", fn := fun _ => fun
  | [d1, d2, d3] => { results := [.lit (.bool false)], args := [d1, d2, d3] }
  | _ => none }
def EyeFewerWrongFalsely : Prop := eyeFewerRow.holds Tryd.pinned (OpenSpec.ofChange eyeFewerWrong)

/-- 'griffelaw11.EyeTrue': WHATEVER THE INPUT: true; the input reads as it did. -/
def eyeTrueSpec : ChangeSpec := { name := "eyeTrue", fn := fun _ => fun
  | [d1, d2] => { results := [.lit (.bool true)], args := [d1, d2] }
  | _ => none }
def eyeTrueRow : OpenClaim := { program := "ytoagdbabgiekgaadoor", sum := "c4162b99e1e6264292cbc2f3981bd3c005446800bc1b9071bcfe14bdd1bd61f5", func := "griffe/griffelaw11.EyeTrue", spec := "eyeTrue", inPlace := ["internal/abi.NoEscape", "internal/bytealg.IndexByteString", "internal/bytealg.IndexString"], unfollowed := true, recurses := true, named := ["unicode/utf8.first", "unicode/utf8.acceptRanges", "internal/bytealg.MaxLen"], apart := false, laid := [("unicode/utf8.acceptRanges", laid_unicode_utf8_acceptRanges), ("unicode/utf8.first", laid_unicode_utf8_first)] }
def EyeTrueSaid : Prop := eyeTrueRow.holds Tryd.pinned (OpenSpec.ofChange eyeTrueSpec)

/-- ITS FALSE NEIGHBOUR: 'it returns false'. Refute it at one input. -/
def eyeTrueWrong : ChangeSpec := { name := "eyeTrue", fn := fun _ => fun
  | [d1, d2] => { results := [.lit (.bool false)], args := [d1, d2] }
  | _ => none }
def EyeTrueWrongFalsely : Prop := eyeTrueRow.holds Tryd.pinned (OpenSpec.ofChange eyeTrueWrong)

/- THE SECOND FORM. 'bulk': how many values and letters a reading holds, each counted each time it is reached (what is shared counts as often as it is met; a slice's spare places count too). A statement '..UptoSaid' is the law's where the arguments, and the package variables that the reading takes, are together of bulk at most 1048576: NARROWER than '..Said'. Prove '..Said' where nothing that the law and all that it calls make is longer than what came in: it says more and counts as full. Else prove '..UptoSaid'. A law counts once. -/
mutual
def uptoBulk {H : Type} : DataW H → Nat
  | .lit (.string bytes) => bytes.length + 1
  | .lit _ => 1
  | .nil => 1
  | .ptr d => uptoBulk d + 1
  | .slice elems spare => uptoBulkAll elems + uptoBulkAll spare + 1
  | .agg parts => uptoBulkAll parts + 1
  | .iface _ d => uptoBulk d + 1
  | .map entries => uptoBulkEntries entries + 1
  | .held _ => 1
def uptoBulkAll {H : Type} : List (DataW H) → Nat
  | [] => 0
  | d :: r => uptoBulk d + uptoBulkAll r
def uptoBulkEntries {H : Type} : List (Lit × DataW H) → Nat
  | [] => 0
  | x :: r => uptoBulkEntry x + uptoBulkEntries r
def uptoBulkEntry {H : Type} : Lit × DataW H → Nat
  | (.string bytes, d) => bytes.length + uptoBulk d + 1
  | (_, d) => uptoBulk d + 1
 end
def uptoSmall : (H : Type) → List (DataW H) → Bool := fun _ ds => decide (uptoBulkAll ds ≤ 1048576)
def OpenSpec.upto (s : _root_.Go.ChangeSpec) : _root_.Go.OpenSpec := { _root_.Go.OpenSpec.ofChange s with cond := some uptoSmall }

/-- 'griffelaw11.EyeRedraws', WHERE WHAT IT READS IS OF BULK AT MOST 1048576: true; the input reads as it did. -/
def eyeRedrawsUptoRow : OpenClaim := { program := "ytoagdbabgiekgaadoor", sum := "c4162b99e1e6264292cbc2f3981bd3c005446800bc1b9071bcfe14bdd1bd61f5", func := "griffe/griffelaw11.EyeRedraws", spec := "eyeRedraws", inPlace := ["internal/abi.NoEscape", "internal/bytealg.IndexByteString", "internal/bytealg.IndexString"], unfollowed := true, recurses := true, named := ["unicode/utf8.first", "unicode/utf8.acceptRanges", "internal/bytealg.MaxLen"], apart := false, laid := [("unicode/utf8.acceptRanges", laid_unicode_utf8_acceptRanges), ("unicode/utf8.first", laid_unicode_utf8_first)], narrowed := true }
def EyeRedrawsUptoSaid : Prop := eyeRedrawsUptoRow.holds Tryd.pinned (OpenSpec.upto eyeRedrawsSpec)

/-- 'griffelaw11.EyeOuts', WHERE WHAT IT READS IS OF BULK AT MOST 1048576: true; the input reads as it did. -/
def eyeOutsUptoRow : OpenClaim := { program := "ytoagdbabgiekgaadoor", sum := "c4162b99e1e6264292cbc2f3981bd3c005446800bc1b9071bcfe14bdd1bd61f5", func := "griffe/griffelaw11.EyeOuts", spec := "eyeOuts", inPlace := ["internal/abi.NoEscape", "internal/bytealg.IndexByteString", "internal/bytealg.IndexString"], unfollowed := true, recurses := true, named := ["unicode/utf8.first", "unicode/utf8.acceptRanges", "internal/bytealg.MaxLen"], apart := false, laid := [("unicode/utf8.acceptRanges", laid_unicode_utf8_acceptRanges), ("unicode/utf8.first", laid_unicode_utf8_first)], narrowed := true }
def EyeOutsUptoSaid : Prop := eyeOutsUptoRow.holds Tryd.pinned (OpenSpec.upto eyeOutsSpec)

/-- 'griffelaw11.EyeLayers', WHERE WHAT IT READS IS OF BULK AT MOST 1048576: true; the input reads as it did. -/
def eyeLayersUptoRow : OpenClaim := { program := "ytoagdbabgiekgaadoor", sum := "c4162b99e1e6264292cbc2f3981bd3c005446800bc1b9071bcfe14bdd1bd61f5", func := "griffe/griffelaw11.EyeLayers", spec := "eyeLayers", inPlace := ["internal/abi.NoEscape", "internal/bytealg.IndexByteString", "internal/bytealg.IndexString"], unfollowed := true, recurses := true, named := ["unicode/utf8.first", "unicode/utf8.acceptRanges", "internal/bytealg.MaxLen"], apart := false, laid := [("unicode/utf8.acceptRanges", laid_unicode_utf8_acceptRanges), ("unicode/utf8.first", laid_unicode_utf8_first)], narrowed := true }
def EyeLayersUptoSaid : Prop := eyeLayersUptoRow.holds Tryd.pinned (OpenSpec.upto eyeLayersSpec)

/-- 'griffelaw11.EyeRight', WHERE WHAT IT READS IS OF BULK AT MOST 1048576: true; the input reads as it did. -/
def eyeRightUptoRow : OpenClaim := { program := "ytoagdbabgiekgaadoor", sum := "c4162b99e1e6264292cbc2f3981bd3c005446800bc1b9071bcfe14bdd1bd61f5", func := "griffe/griffelaw11.EyeRight", spec := "eyeRight", inPlace := ["internal/abi.NoEscape", "internal/bytealg.IndexByteString", "internal/bytealg.IndexString"], unfollowed := true, recurses := true, named := ["unicode/utf8.first", "unicode/utf8.acceptRanges", "internal/bytealg.MaxLen"], apart := false, laid := [("unicode/utf8.acceptRanges", laid_unicode_utf8_acceptRanges), ("unicode/utf8.first", laid_unicode_utf8_first)], narrowed := true }
def EyeRightUptoSaid : Prop := eyeRightUptoRow.holds Tryd.pinned (OpenSpec.upto eyeRightSpec)

/-- 'griffelaw11.EyeTells', WHERE WHAT IT READS IS OF BULK AT MOST 1048576: true; the input reads as it did. -/
def eyeTellsUptoRow : OpenClaim := { program := "ytoagdbabgiekgaadoor", sum := "c4162b99e1e6264292cbc2f3981bd3c005446800bc1b9071bcfe14bdd1bd61f5", func := "griffe/griffelaw11.EyeTells", spec := "eyeTells", inPlace := ["internal/abi.NoEscape", "internal/bytealg.IndexByteString", "internal/bytealg.IndexString"], unfollowed := true, recurses := true, named := ["unicode/utf8.first", "unicode/utf8.acceptRanges", "internal/bytealg.MaxLen"], apart := false, laid := [("unicode/utf8.acceptRanges", laid_unicode_utf8_acceptRanges), ("unicode/utf8.first", laid_unicode_utf8_first)], narrowed := true }
def EyeTellsUptoSaid : Prop := eyeTellsUptoRow.holds Tryd.pinned (OpenSpec.upto eyeTellsSpec)

/-- 'griffelaw11.EyeTangle', WHERE WHAT IT READS IS OF BULK AT MOST 1048576: true; the input reads as it did. -/
def eyeTangleUptoRow : OpenClaim := { program := "ytoagdbabgiekgaadoor", sum := "c4162b99e1e6264292cbc2f3981bd3c005446800bc1b9071bcfe14bdd1bd61f5", func := "griffe/griffelaw11.EyeTangle", spec := "eyeTangle", inPlace := ["internal/abi.NoEscape", "internal/bytealg.IndexByteString", "internal/bytealg.IndexString"], unfollowed := true, recurses := true, named := ["unicode/utf8.first", "unicode/utf8.acceptRanges", "internal/bytealg.MaxLen"], apart := false, laid := [("unicode/utf8.acceptRanges", laid_unicode_utf8_acceptRanges), ("unicode/utf8.first", laid_unicode_utf8_first)], narrowed := true }
def EyeTangleUptoSaid : Prop := eyeTangleUptoRow.holds Tryd.pinned (OpenSpec.upto eyeTangleSpec)

/-- 'griffelaw11.EyeFewer', WHERE WHAT IT READS IS OF BULK AT MOST 1048576: true; the input reads as it did. -/
def eyeFewerUptoRow : OpenClaim := { program := "ytoagdbabgiekgaadoor", sum := "c4162b99e1e6264292cbc2f3981bd3c005446800bc1b9071bcfe14bdd1bd61f5", func := "griffe/griffelaw11.EyeFewer", spec := "eyeFewer", inPlace := ["internal/abi.NoEscape", "internal/bytealg.IndexByteString", "internal/bytealg.IndexString"], unfollowed := true, recurses := true, named := ["unicode/utf8.first", "unicode/utf8.acceptRanges", "internal/bytealg.MaxLen"], apart := false, laid := [("unicode/utf8.acceptRanges", laid_unicode_utf8_acceptRanges), ("unicode/utf8.first", laid_unicode_utf8_first)], narrowed := true }
def EyeFewerUptoSaid : Prop := eyeFewerUptoRow.holds Tryd.pinned (OpenSpec.upto eyeFewerSpec)

/-- 'griffelaw11.EyeTrue', WHERE WHAT IT READS IS OF BULK AT MOST 1048576: true; the input reads as it did. -/
def eyeTrueUptoRow : OpenClaim := { program := "ytoagdbabgiekgaadoor", sum := "c4162b99e1e6264292cbc2f3981bd3c005446800bc1b9071bcfe14bdd1bd61f5", func := "griffe/griffelaw11.EyeTrue", spec := "eyeTrue", inPlace := ["internal/abi.NoEscape", "internal/bytealg.IndexByteString", "internal/bytealg.IndexString"], unfollowed := true, recurses := true, named := ["unicode/utf8.first", "unicode/utf8.acceptRanges", "internal/bytealg.MaxLen"], apart := false, laid := [("unicode/utf8.acceptRanges", laid_unicode_utf8_acceptRanges), ("unicode/utf8.first", laid_unicode_utf8_first)], narrowed := true }
def EyeTrueUptoSaid : Prop := eyeTrueUptoRow.holds Tryd.pinned (OpenSpec.upto eyeTrueSpec)

end Rows
end Go.Proofs.YtoagdbabgiekgaaDoor
