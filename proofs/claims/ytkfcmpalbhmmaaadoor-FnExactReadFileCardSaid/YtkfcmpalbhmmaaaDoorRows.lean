/-
  NARROWER THAN 'FOR EVERY INPUT', by the rows' own cells (each row's printed sentence says how): FnExactBelow: laid · FnExactSplitPath: laid · FnBelow: laid · FnExactParentOf: laid · FnPaths: laid · FnParents: laid · FnExactWalk: laid · FnExactGetAttr: laid · FnExactReadFile: laid · FnExactList: laid · FnExactStat: laid.
  DERIVED. THE GIVEN ROWS OF THIS SEAT. 11 by the template 'for every input the law returns true; each argument reads behind the call as it read before'; 0 by the template 'total and deterministic' (their statements: YtkfcmpalbhmmaaaDoorTotals.lean).
  GIVEN WITH THE SEED: the statements are not yours to turn. If you find one false, say at which input.
  Laid BY PROGRAM, IN A SANDBOX (cutbox-rows.mjs): the forced cells as the released guide's own fill.sh prints them over the translation 3a61f3f4d53a1730… (all of the seat's roots in one cut). By AI agents, Wed Nov 11 2026. No macro, syntax, notation, axiom, sorry.
-/
import Derived.Test.YtkfcmpalbhmmaaaDoorChecked
import GoSem.PinnedTables
import GoSem.Claim
import GoSem.ClaimJoined
import GoSem.ClaimMapViews
import Derived.JoinedTies
import Derived.KernelRfl
namespace Go.Proofs.YtkfcmpalbhmmaaaDoor
/- THE CELL 'sum', in the pinned program and in every row, IS THE sha256 OF THE DUMP (.gsa) THAT YtkfcmpalbhmmaaaDoorProg.lean LOADS. Nothing in Lean hashes anything: it is a label: what it is worth is what the hold of that sum in a sandbox is worth. -/
noncomputable def Tryd.pinned : Pinned := { name := "ytkfcmpalbhmmaaadoor", sum := "3a61f3f4d53a173036e8b35812775b6c049851866aabc1d286fe11c897cf121d", checked := Tryd.checked }
namespace Rows
def none {H : Type} : Left H := { results := [], args := [] }

/- WHAT THE LISTED PACKAGE-LEVEL VARIABLES READ AS WHEN THE CALL BEGINS. Each datum BY PROGRAM (the guide's laid-datum.mjs) off the statement by which the dump's own 'gosem.cut.vars' lays the variable. In a bare row this is a premise. The card (YtkfcmpalbhmmaaaDoorCards.lean) ties it to the program's text. -/
def laid_unicode_utf8_acceptRanges {H : Type} : DataW H := .agg [.agg [.lit (.int .u8 128), .lit (.int .u8 191)], .agg [.lit (.int .u8 160), .lit (.int .u8 191)], .agg [.lit (.int .u8 128), .lit (.int .u8 159)], .agg [.lit (.int .u8 144), .lit (.int .u8 191)], .agg [.lit (.int .u8 128), .lit (.int .u8 143)], .agg [.lit (.int .u8 0), .lit (.int .u8 0)], .agg [.lit (.int .u8 0), .lit (.int .u8 0)], .agg [.lit (.int .u8 0), .lit (.int .u8 0)], .agg [.lit (.int .u8 0), .lit (.int .u8 0)], .agg [.lit (.int .u8 0), .lit (.int .u8 0)], .agg [.lit (.int .u8 0), .lit (.int .u8 0)], .agg [.lit (.int .u8 0), .lit (.int .u8 0)], .agg [.lit (.int .u8 0), .lit (.int .u8 0)], .agg [.lit (.int .u8 0), .lit (.int .u8 0)], .agg [.lit (.int .u8 0), .lit (.int .u8 0)], .agg [.lit (.int .u8 0), .lit (.int .u8 0)]]
/-- One of Go's own tables, pinned by name: the form's constant. -/
def laid_unicode_utf8_first : DataW Unit := Go.Pinned.utf8First

/-- 'laws.FnExactBelow': WHATEVER THE INPUT: true; the input reads as it did. -/
def fnExactBelowSpec : ChangeSpec := { name := "fnExactBelow", fn := fun _ => fun
  | [d1, d2] => { results := [.lit (.bool true)], args := [d1, d2] }
  | _ => none }
def fnExactBelowRow : OpenClaim := { program := "ytkfcmpalbhmmaaadoor", sum := "3a61f3f4d53a173036e8b35812775b6c049851866aabc1d286fe11c897cf121d", func := "loop.example/g00285/laws.FnExactBelow", spec := "fnExactBelow", inPlace := ["internal/bytealg.CountString", "internal/bytealg.IndexByteString", "internal/bytealg.IndexString"], unfollowed := true, recurses := true, named := ["unicode/utf8.first", "unicode/utf8.acceptRanges", "internal/bytealg.MaxLen"], apart := false, laid := [("unicode/utf8.acceptRanges", laid_unicode_utf8_acceptRanges), ("unicode/utf8.first", laid_unicode_utf8_first)] }
def FnExactBelowSaid : Prop := fnExactBelowRow.holds Tryd.pinned (OpenSpec.ofChange fnExactBelowSpec)

/-- ITS FALSE NEIGHBOUR: 'it returns false'. Refute it at one input. -/
def fnExactBelowWrong : ChangeSpec := { name := "fnExactBelow", fn := fun _ => fun
  | [d1, d2] => { results := [.lit (.bool false)], args := [d1, d2] }
  | _ => none }
def FnExactBelowWrongFalsely : Prop := fnExactBelowRow.holds Tryd.pinned (OpenSpec.ofChange fnExactBelowWrong)

/-- 'laws.FnExactSplitPath': WHATEVER THE INPUT: true; the input reads as it did. -/
def fnExactSplitPathSpec : ChangeSpec := { name := "fnExactSplitPath", fn := fun _ => fun
  | [d] => { results := [.lit (.bool true)], args := [d] }
  | _ => none }
def fnExactSplitPathRow : OpenClaim := { program := "ytkfcmpalbhmmaaadoor", sum := "3a61f3f4d53a173036e8b35812775b6c049851866aabc1d286fe11c897cf121d", func := "loop.example/g00285/laws.FnExactSplitPath", spec := "fnExactSplitPath", inPlace := ["internal/bytealg.CountString", "internal/bytealg.IndexByteString", "internal/bytealg.IndexString"], unfollowed := true, recurses := true, named := ["unicode/utf8.first", "unicode/utf8.acceptRanges", "internal/bytealg.MaxLen"], apart := false, laid := [("unicode/utf8.acceptRanges", laid_unicode_utf8_acceptRanges), ("unicode/utf8.first", laid_unicode_utf8_first)] }
def FnExactSplitPathSaid : Prop := fnExactSplitPathRow.holds Tryd.pinned (OpenSpec.ofChange fnExactSplitPathSpec)

/-- ITS FALSE NEIGHBOUR: 'it returns false'. Refute it at one input. -/
def fnExactSplitPathWrong : ChangeSpec := { name := "fnExactSplitPath", fn := fun _ => fun
  | [d] => { results := [.lit (.bool false)], args := [d] }
  | _ => none }
def FnExactSplitPathWrongFalsely : Prop := fnExactSplitPathRow.holds Tryd.pinned (OpenSpec.ofChange fnExactSplitPathWrong)

/-- 'laws.FnBelow': WHATEVER THE INPUT: true; the input reads as it did. -/
def fnBelowSpec : ChangeSpec := { name := "fnBelow", fn := fun _ => fun
  | [d] => { results := [.lit (.bool true)], args := [d] }
  | _ => none }
def fnBelowRow : OpenClaim := { program := "ytkfcmpalbhmmaaadoor", sum := "3a61f3f4d53a173036e8b35812775b6c049851866aabc1d286fe11c897cf121d", func := "loop.example/g00285/laws.FnBelow", spec := "fnBelow", inPlace := ["internal/bytealg.CountString", "internal/bytealg.IndexByteString", "internal/bytealg.IndexString"], unfollowed := true, recurses := true, named := ["unicode/utf8.first", "unicode/utf8.acceptRanges", "internal/bytealg.MaxLen"], apart := false, laid := [("unicode/utf8.acceptRanges", laid_unicode_utf8_acceptRanges), ("unicode/utf8.first", laid_unicode_utf8_first)] }
def FnBelowSaid : Prop := fnBelowRow.holds Tryd.pinned (OpenSpec.ofChange fnBelowSpec)

/-- ITS FALSE NEIGHBOUR: 'it returns false'. Refute it at one input. -/
def fnBelowWrong : ChangeSpec := { name := "fnBelow", fn := fun _ => fun
  | [d] => { results := [.lit (.bool false)], args := [d] }
  | _ => none }
def FnBelowWrongFalsely : Prop := fnBelowRow.holds Tryd.pinned (OpenSpec.ofChange fnBelowWrong)

/-- 'laws.FnExactParentOf': WHATEVER THE INPUT: true; the input reads as it did. -/
def fnExactParentOfSpec : ChangeSpec := { name := "fnExactParentOf", fn := fun _ => fun
  | [d] => { results := [.lit (.bool true)], args := [d] }
  | _ => none }
def fnExactParentOfRow : OpenClaim := { program := "ytkfcmpalbhmmaaadoor", sum := "3a61f3f4d53a173036e8b35812775b6c049851866aabc1d286fe11c897cf121d", func := "loop.example/g00285/laws.FnExactParentOf", spec := "fnExactParentOf", inPlace := ["internal/bytealg.CountString", "internal/bytealg.IndexByteString", "internal/bytealg.IndexString", "internal/abi.NoEscape", "internal/bytealg.MakeNoZero"], unfollowed := true, recurses := true, named := ["unicode/utf8.first", "unicode/utf8.acceptRanges", "internal/bytealg.MaxLen"], apart := false, laid := [("unicode/utf8.acceptRanges", laid_unicode_utf8_acceptRanges), ("unicode/utf8.first", laid_unicode_utf8_first)] }
def FnExactParentOfSaid : Prop := fnExactParentOfRow.holds Tryd.pinned (OpenSpec.ofChange fnExactParentOfSpec)

/-- ITS FALSE NEIGHBOUR: 'it returns false'. Refute it at one input. -/
def fnExactParentOfWrong : ChangeSpec := { name := "fnExactParentOf", fn := fun _ => fun
  | [d] => { results := [.lit (.bool false)], args := [d] }
  | _ => none }
def FnExactParentOfWrongFalsely : Prop := fnExactParentOfRow.holds Tryd.pinned (OpenSpec.ofChange fnExactParentOfWrong)

/-- 'laws.FnPaths': WHATEVER THE INPUT: true; the input reads as it did. -/
def fnPathsSpec : ChangeSpec := { name := "fnPaths", fn := fun _ => fun
  | [d] => { results := [.lit (.bool true)], args := [d] }
  | _ => none }
def fnPathsRow : OpenClaim := { program := "ytkfcmpalbhmmaaadoor", sum := "3a61f3f4d53a173036e8b35812775b6c049851866aabc1d286fe11c897cf121d", func := "loop.example/g00285/laws.FnPaths", spec := "fnPaths", inPlace := ["internal/abi.NoEscape", "internal/bytealg.MakeNoZero", "internal/bytealg.CountString", "internal/bytealg.IndexByteString", "internal/bytealg.IndexString"], unfollowed := true, recurses := true, named := ["unicode/utf8.first", "unicode/utf8.acceptRanges", "internal/bytealg.MaxLen"], apart := false, laid := [("unicode/utf8.acceptRanges", laid_unicode_utf8_acceptRanges), ("unicode/utf8.first", laid_unicode_utf8_first)] }
def FnPathsSaid : Prop := fnPathsRow.holds Tryd.pinned (OpenSpec.ofChange fnPathsSpec)

/-- ITS FALSE NEIGHBOUR: 'it returns false'. Refute it at one input. -/
def fnPathsWrong : ChangeSpec := { name := "fnPaths", fn := fun _ => fun
  | [d] => { results := [.lit (.bool false)], args := [d] }
  | _ => none }
def FnPathsWrongFalsely : Prop := fnPathsRow.holds Tryd.pinned (OpenSpec.ofChange fnPathsWrong)

/-- 'laws.FnParents': WHATEVER THE INPUT: true; the input reads as it did. -/
def fnParentsSpec : ChangeSpec := { name := "fnParents", fn := fun _ => fun
  | [d] => { results := [.lit (.bool true)], args := [d] }
  | _ => none }
def fnParentsRow : OpenClaim := { program := "ytkfcmpalbhmmaaadoor", sum := "3a61f3f4d53a173036e8b35812775b6c049851866aabc1d286fe11c897cf121d", func := "loop.example/g00285/laws.FnParents", spec := "fnParents", inPlace := ["internal/bytealg.CountString", "internal/bytealg.IndexByteString", "internal/bytealg.IndexString", "internal/abi.NoEscape", "internal/bytealg.MakeNoZero"], unfollowed := true, recurses := true, named := ["unicode/utf8.first", "unicode/utf8.acceptRanges", "internal/bytealg.MaxLen"], apart := false, laid := [("unicode/utf8.acceptRanges", laid_unicode_utf8_acceptRanges), ("unicode/utf8.first", laid_unicode_utf8_first)] }
def FnParentsSaid : Prop := fnParentsRow.holds Tryd.pinned (OpenSpec.ofChange fnParentsSpec)

/-- ITS FALSE NEIGHBOUR: 'it returns false'. Refute it at one input. -/
def fnParentsWrong : ChangeSpec := { name := "fnParents", fn := fun _ => fun
  | [d] => { results := [.lit (.bool false)], args := [d] }
  | _ => none }
def FnParentsWrongFalsely : Prop := fnParentsRow.holds Tryd.pinned (OpenSpec.ofChange fnParentsWrong)

/-- 'laws.FnExactWalk': WHATEVER THE INPUT: true; the input reads as it did. -/
def fnExactWalkSpec : ChangeSpec := { name := "fnExactWalk", fn := fun _ => fun
  | [d1, d2] => { results := [.lit (.bool true)], args := [d1, d2] }
  | _ => none }
def fnExactWalkRow : OpenClaim := { program := "ytkfcmpalbhmmaaadoor", sum := "3a61f3f4d53a173036e8b35812775b6c049851866aabc1d286fe11c897cf121d", func := "loop.example/g00285/laws.FnExactWalk", spec := "fnExactWalk", inPlace := ["internal/bytealg.CountString", "internal/bytealg.IndexByteString", "internal/bytealg.IndexString"], unfollowed := true, recurses := true, named := ["unicode/utf8.first", "unicode/utf8.acceptRanges", "internal/bytealg.MaxLen"], apart := false, laid := [("unicode/utf8.acceptRanges", laid_unicode_utf8_acceptRanges), ("unicode/utf8.first", laid_unicode_utf8_first)] }
def FnExactWalkSaid : Prop := fnExactWalkRow.holds Tryd.pinned (OpenSpec.ofChange fnExactWalkSpec)

/-- ITS FALSE NEIGHBOUR: 'it returns false'. Refute it at one input. -/
def fnExactWalkWrong : ChangeSpec := { name := "fnExactWalk", fn := fun _ => fun
  | [d1, d2] => { results := [.lit (.bool false)], args := [d1, d2] }
  | _ => none }
def FnExactWalkWrongFalsely : Prop := fnExactWalkRow.holds Tryd.pinned (OpenSpec.ofChange fnExactWalkWrong)

/-- 'laws.FnExactGetAttr': WHATEVER THE INPUT: true; the input reads as it did. -/
def fnExactGetAttrSpec : ChangeSpec := { name := "fnExactGetAttr", fn := fun _ => fun
  | [d1, d2, d3] => { results := [.lit (.bool true)], args := [d1, d2, d3] }
  | _ => none }
def fnExactGetAttrRow : OpenClaim := { program := "ytkfcmpalbhmmaaadoor", sum := "3a61f3f4d53a173036e8b35812775b6c049851866aabc1d286fe11c897cf121d", func := "loop.example/g00285/laws.FnExactGetAttr", spec := "fnExactGetAttr", inPlace := ["internal/bytealg.CountString", "internal/bytealg.IndexByteString", "internal/bytealg.IndexString"], unfollowed := true, recurses := true, named := ["unicode/utf8.first", "unicode/utf8.acceptRanges", "internal/bytealg.MaxLen"], apart := false, laid := [("unicode/utf8.acceptRanges", laid_unicode_utf8_acceptRanges), ("unicode/utf8.first", laid_unicode_utf8_first)] }
def FnExactGetAttrSaid : Prop := fnExactGetAttrRow.holds Tryd.pinned (OpenSpec.ofChange fnExactGetAttrSpec)

/-- ITS FALSE NEIGHBOUR: 'it returns false'. Refute it at one input. -/
def fnExactGetAttrWrong : ChangeSpec := { name := "fnExactGetAttr", fn := fun _ => fun
  | [d1, d2, d3] => { results := [.lit (.bool false)], args := [d1, d2, d3] }
  | _ => none }
def FnExactGetAttrWrongFalsely : Prop := fnExactGetAttrRow.holds Tryd.pinned (OpenSpec.ofChange fnExactGetAttrWrong)

/-- 'laws.FnExactReadFile': WHATEVER THE INPUT: true; the input reads as it did. -/
def fnExactReadFileSpec : ChangeSpec := { name := "fnExactReadFile", fn := fun _ => fun
  | [d1, d2, d3, d4] => { results := [.lit (.bool true)], args := [d1, d2, d3, d4] }
  | _ => none }
def fnExactReadFileRow : OpenClaim := { program := "ytkfcmpalbhmmaaadoor", sum := "3a61f3f4d53a173036e8b35812775b6c049851866aabc1d286fe11c897cf121d", func := "loop.example/g00285/laws.FnExactReadFile", spec := "fnExactReadFile", inPlace := ["internal/bytealg.CountString", "internal/bytealg.IndexByteString", "internal/bytealg.IndexString"], unfollowed := true, recurses := true, named := ["unicode/utf8.first", "unicode/utf8.acceptRanges", "internal/bytealg.MaxLen"], apart := false, laid := [("unicode/utf8.acceptRanges", laid_unicode_utf8_acceptRanges), ("unicode/utf8.first", laid_unicode_utf8_first)] }
def FnExactReadFileSaid : Prop := fnExactReadFileRow.holds Tryd.pinned (OpenSpec.ofChange fnExactReadFileSpec)

/-- ITS FALSE NEIGHBOUR: 'it returns false'. Refute it at one input. -/
def fnExactReadFileWrong : ChangeSpec := { name := "fnExactReadFile", fn := fun _ => fun
  | [d1, d2, d3, d4] => { results := [.lit (.bool false)], args := [d1, d2, d3, d4] }
  | _ => none }
def FnExactReadFileWrongFalsely : Prop := fnExactReadFileRow.holds Tryd.pinned (OpenSpec.ofChange fnExactReadFileWrong)

/-- 'laws.FnExactList': WHATEVER THE INPUT: true; the input reads as it did. -/
def fnExactListSpec : ChangeSpec := { name := "fnExactList", fn := fun _ => fun
  | [d1, d2] => { results := [.lit (.bool true)], args := [d1, d2] }
  | _ => none }
def fnExactListRow : OpenClaim := { program := "ytkfcmpalbhmmaaadoor", sum := "3a61f3f4d53a173036e8b35812775b6c049851866aabc1d286fe11c897cf121d", func := "loop.example/g00285/laws.FnExactList", spec := "fnExactList", inPlace := ["internal/bytealg.CountString", "internal/bytealg.IndexByteString", "internal/bytealg.IndexString"], unfollowed := true, recurses := true, named := ["unicode/utf8.first", "unicode/utf8.acceptRanges", "internal/bytealg.MaxLen"], apart := false, laid := [("unicode/utf8.acceptRanges", laid_unicode_utf8_acceptRanges), ("unicode/utf8.first", laid_unicode_utf8_first)] }
def FnExactListSaid : Prop := fnExactListRow.holds Tryd.pinned (OpenSpec.ofChange fnExactListSpec)

/-- ITS FALSE NEIGHBOUR: 'it returns false'. Refute it at one input. -/
def fnExactListWrong : ChangeSpec := { name := "fnExactList", fn := fun _ => fun
  | [d1, d2] => { results := [.lit (.bool false)], args := [d1, d2] }
  | _ => none }
def FnExactListWrongFalsely : Prop := fnExactListRow.holds Tryd.pinned (OpenSpec.ofChange fnExactListWrong)

/-- 'laws.FnExactStat': WHATEVER THE INPUT: true; the input reads as it did. -/
def fnExactStatSpec : ChangeSpec := { name := "fnExactStat", fn := fun _ => fun
  | [d1, d2] => { results := [.lit (.bool true)], args := [d1, d2] }
  | _ => none }
def fnExactStatRow : OpenClaim := { program := "ytkfcmpalbhmmaaadoor", sum := "3a61f3f4d53a173036e8b35812775b6c049851866aabc1d286fe11c897cf121d", func := "loop.example/g00285/laws.FnExactStat", spec := "fnExactStat", inPlace := ["internal/bytealg.CountString", "internal/bytealg.IndexByteString", "internal/bytealg.IndexString"], unfollowed := true, recurses := true, named := ["unicode/utf8.first", "unicode/utf8.acceptRanges", "internal/bytealg.MaxLen"], apart := false, laid := [("unicode/utf8.acceptRanges", laid_unicode_utf8_acceptRanges), ("unicode/utf8.first", laid_unicode_utf8_first)] }
def FnExactStatSaid : Prop := fnExactStatRow.holds Tryd.pinned (OpenSpec.ofChange fnExactStatSpec)

/-- ITS FALSE NEIGHBOUR: 'it returns false'. Refute it at one input. -/
def fnExactStatWrong : ChangeSpec := { name := "fnExactStat", fn := fun _ => fun
  | [d1, d2] => { results := [.lit (.bool false)], args := [d1, d2] }
  | _ => none }
def FnExactStatWrongFalsely : Prop := fnExactStatRow.holds Tryd.pinned (OpenSpec.ofChange fnExactStatWrong)

/- THE SECOND FORM. 'bulk': how many values and letters a reading holds, each counted each time it is reached (what is shared counts as often as it is met; a slice's spare places count too). A statement '..UptoSaid' is the law's where the arguments, and the package variables that the reading takes, are together of bulk at most 1048576: NARROWER than '..Said'. Prove '..Said' where nothing that the law and all that it calls make is longer than what came in: it says more and counts as full. Else prove '..UptoSaid'. A law counts once. -/
mutual
def uptoBulk {H : Type} : DataW H → Nat
  | .lit (.string bytes) => bytes.length + 1
  | .lit _ => 1
  | .nil => 1
  | .ptr d => uptoBulk d + 1
  | .slice elems spare => uptoBulkAll elems + uptoBulkAll spare + 1
  | .agg parts => uptoBulkAll parts + 1
  | .iface _ d => uptoBulk d + 1
  | .map entries => uptoBulkEntries entries + 1
  | .held _ => 1
def uptoBulkAll {H : Type} : List (DataW H) → Nat
  | [] => 0
  | d :: r => uptoBulk d + uptoBulkAll r
def uptoBulkEntries {H : Type} : List (Lit × DataW H) → Nat
  | [] => 0
  | x :: r => uptoBulkEntry x + uptoBulkEntries r
def uptoBulkEntry {H : Type} : Lit × DataW H → Nat
  | (.string bytes, d) => bytes.length + uptoBulk d + 1
  | (_, d) => uptoBulk d + 1
 end
def uptoSmall : (H : Type) → List (DataW H) → Bool := fun _ ds => decide (uptoBulkAll ds ≤ 1048576)
def OpenSpec.upto (s : _root_.Go.ChangeSpec) : _root_.Go.OpenSpec := { _root_.Go.OpenSpec.ofChange s with cond := some uptoSmall }

/-- 'laws.FnExactBelow', WHERE WHAT IT READS IS OF BULK AT MOST 1048576: true; the input reads as it did. -/
def fnExactBelowUptoRow : OpenClaim := { program := "ytkfcmpalbhmmaaadoor", sum := "3a61f3f4d53a173036e8b35812775b6c049851866aabc1d286fe11c897cf121d", func := "loop.example/g00285/laws.FnExactBelow", spec := "fnExactBelow", inPlace := ["internal/bytealg.CountString", "internal/bytealg.IndexByteString", "internal/bytealg.IndexString"], unfollowed := true, recurses := true, named := ["unicode/utf8.first", "unicode/utf8.acceptRanges", "internal/bytealg.MaxLen"], apart := false, laid := [("unicode/utf8.acceptRanges", laid_unicode_utf8_acceptRanges), ("unicode/utf8.first", laid_unicode_utf8_first)], narrowed := true }
def FnExactBelowUptoSaid : Prop := fnExactBelowUptoRow.holds Tryd.pinned (OpenSpec.upto fnExactBelowSpec)

/-- 'laws.FnExactSplitPath', WHERE WHAT IT READS IS OF BULK AT MOST 1048576: true; the input reads as it did. -/
def fnExactSplitPathUptoRow : OpenClaim := { program := "ytkfcmpalbhmmaaadoor", sum := "3a61f3f4d53a173036e8b35812775b6c049851866aabc1d286fe11c897cf121d", func := "loop.example/g00285/laws.FnExactSplitPath", spec := "fnExactSplitPath", inPlace := ["internal/bytealg.CountString", "internal/bytealg.IndexByteString", "internal/bytealg.IndexString"], unfollowed := true, recurses := true, named := ["unicode/utf8.first", "unicode/utf8.acceptRanges", "internal/bytealg.MaxLen"], apart := false, laid := [("unicode/utf8.acceptRanges", laid_unicode_utf8_acceptRanges), ("unicode/utf8.first", laid_unicode_utf8_first)], narrowed := true }
def FnExactSplitPathUptoSaid : Prop := fnExactSplitPathUptoRow.holds Tryd.pinned (OpenSpec.upto fnExactSplitPathSpec)

/-- 'laws.FnBelow', WHERE WHAT IT READS IS OF BULK AT MOST 1048576: true; the input reads as it did. -/
def fnBelowUptoRow : OpenClaim := { program := "ytkfcmpalbhmmaaadoor", sum := "3a61f3f4d53a173036e8b35812775b6c049851866aabc1d286fe11c897cf121d", func := "loop.example/g00285/laws.FnBelow", spec := "fnBelow", inPlace := ["internal/bytealg.CountString", "internal/bytealg.IndexByteString", "internal/bytealg.IndexString"], unfollowed := true, recurses := true, named := ["unicode/utf8.first", "unicode/utf8.acceptRanges", "internal/bytealg.MaxLen"], apart := false, laid := [("unicode/utf8.acceptRanges", laid_unicode_utf8_acceptRanges), ("unicode/utf8.first", laid_unicode_utf8_first)], narrowed := true }
def FnBelowUptoSaid : Prop := fnBelowUptoRow.holds Tryd.pinned (OpenSpec.upto fnBelowSpec)

/-- 'laws.FnExactParentOf', WHERE WHAT IT READS IS OF BULK AT MOST 1048576: true; the input reads as it did. -/
def fnExactParentOfUptoRow : OpenClaim := { program := "ytkfcmpalbhmmaaadoor", sum := "3a61f3f4d53a173036e8b35812775b6c049851866aabc1d286fe11c897cf121d", func := "loop.example/g00285/laws.FnExactParentOf", spec := "fnExactParentOf", inPlace := ["internal/bytealg.CountString", "internal/bytealg.IndexByteString", "internal/bytealg.IndexString", "internal/abi.NoEscape", "internal/bytealg.MakeNoZero"], unfollowed := true, recurses := true, named := ["unicode/utf8.first", "unicode/utf8.acceptRanges", "internal/bytealg.MaxLen"], apart := false, laid := [("unicode/utf8.acceptRanges", laid_unicode_utf8_acceptRanges), ("unicode/utf8.first", laid_unicode_utf8_first)], narrowed := true }
def FnExactParentOfUptoSaid : Prop := fnExactParentOfUptoRow.holds Tryd.pinned (OpenSpec.upto fnExactParentOfSpec)

/-- 'laws.FnPaths', WHERE WHAT IT READS IS OF BULK AT MOST 1048576: true; the input reads as it did. -/
def fnPathsUptoRow : OpenClaim := { program := "ytkfcmpalbhmmaaadoor", sum := "3a61f3f4d53a173036e8b35812775b6c049851866aabc1d286fe11c897cf121d", func := "loop.example/g00285/laws.FnPaths", spec := "fnPaths", inPlace := ["internal/abi.NoEscape", "internal/bytealg.MakeNoZero", "internal/bytealg.CountString", "internal/bytealg.IndexByteString", "internal/bytealg.IndexString"], unfollowed := true, recurses := true, named := ["unicode/utf8.first", "unicode/utf8.acceptRanges", "internal/bytealg.MaxLen"], apart := false, laid := [("unicode/utf8.acceptRanges", laid_unicode_utf8_acceptRanges), ("unicode/utf8.first", laid_unicode_utf8_first)], narrowed := true }
def FnPathsUptoSaid : Prop := fnPathsUptoRow.holds Tryd.pinned (OpenSpec.upto fnPathsSpec)

/-- 'laws.FnParents', WHERE WHAT IT READS IS OF BULK AT MOST 1048576: true; the input reads as it did. -/
def fnParentsUptoRow : OpenClaim := { program := "ytkfcmpalbhmmaaadoor", sum := "3a61f3f4d53a173036e8b35812775b6c049851866aabc1d286fe11c897cf121d", func := "loop.example/g00285/laws.FnParents", spec := "fnParents", inPlace := ["internal/bytealg.CountString", "internal/bytealg.IndexByteString", "internal/bytealg.IndexString", "internal/abi.NoEscape", "internal/bytealg.MakeNoZero"], unfollowed := true, recurses := true, named := ["unicode/utf8.first", "unicode/utf8.acceptRanges", "internal/bytealg.MaxLen"], apart := false, laid := [("unicode/utf8.acceptRanges", laid_unicode_utf8_acceptRanges), ("unicode/utf8.first", laid_unicode_utf8_first)], narrowed := true }
def FnParentsUptoSaid : Prop := fnParentsUptoRow.holds Tryd.pinned (OpenSpec.upto fnParentsSpec)

/-- 'laws.FnExactWalk', WHERE WHAT IT READS IS OF BULK AT MOST 1048576: true; the input reads as it did. -/
def fnExactWalkUptoRow : OpenClaim := { program := "ytkfcmpalbhmmaaadoor", sum := "3a61f3f4d53a173036e8b35812775b6c049851866aabc1d286fe11c897cf121d", func := "loop.example/g00285/laws.FnExactWalk", spec := "fnExactWalk", inPlace := ["internal/bytealg.CountString", "internal/bytealg.IndexByteString", "internal/bytealg.IndexString"], unfollowed := true, recurses := true, named := ["unicode/utf8.first", "unicode/utf8.acceptRanges", "internal/bytealg.MaxLen"], apart := false, laid := [("unicode/utf8.acceptRanges", laid_unicode_utf8_acceptRanges), ("unicode/utf8.first", laid_unicode_utf8_first)], narrowed := true }
def FnExactWalkUptoSaid : Prop := fnExactWalkUptoRow.holds Tryd.pinned (OpenSpec.upto fnExactWalkSpec)

/-- 'laws.FnExactGetAttr', WHERE WHAT IT READS IS OF BULK AT MOST 1048576: true; the input reads as it did. -/
def fnExactGetAttrUptoRow : OpenClaim := { program := "ytkfcmpalbhmmaaadoor", sum := "3a61f3f4d53a173036e8b35812775b6c049851866aabc1d286fe11c897cf121d", func := "loop.example/g00285/laws.FnExactGetAttr", spec := "fnExactGetAttr", inPlace := ["internal/bytealg.CountString", "internal/bytealg.IndexByteString", "internal/bytealg.IndexString"], unfollowed := true, recurses := true, named := ["unicode/utf8.first", "unicode/utf8.acceptRanges", "internal/bytealg.MaxLen"], apart := false, laid := [("unicode/utf8.acceptRanges", laid_unicode_utf8_acceptRanges), ("unicode/utf8.first", laid_unicode_utf8_first)], narrowed := true }
def FnExactGetAttrUptoSaid : Prop := fnExactGetAttrUptoRow.holds Tryd.pinned (OpenSpec.upto fnExactGetAttrSpec)

/-- 'laws.FnExactReadFile', WHERE WHAT IT READS IS OF BULK AT MOST 1048576: true; the input reads as it did. -/
def fnExactReadFileUptoRow : OpenClaim := { program := "ytkfcmpalbhmmaaadoor", sum := "3a61f3f4d53a173036e8b35812775b6c049851866aabc1d286fe11c897cf121d", func := "loop.example/g00285/laws.FnExactReadFile", spec := "fnExactReadFile", inPlace := ["internal/bytealg.CountString", "internal/bytealg.IndexByteString", "internal/bytealg.IndexString"], unfollowed := true, recurses := true, named := ["unicode/utf8.first", "unicode/utf8.acceptRanges", "internal/bytealg.MaxLen"], apart := false, laid := [("unicode/utf8.acceptRanges", laid_unicode_utf8_acceptRanges), ("unicode/utf8.first", laid_unicode_utf8_first)], narrowed := true }
def FnExactReadFileUptoSaid : Prop := fnExactReadFileUptoRow.holds Tryd.pinned (OpenSpec.upto fnExactReadFileSpec)

/-- 'laws.FnExactList', WHERE WHAT IT READS IS OF BULK AT MOST 1048576: true; the input reads as it did. -/
def fnExactListUptoRow : OpenClaim := { program := "ytkfcmpalbhmmaaadoor", sum := "3a61f3f4d53a173036e8b35812775b6c049851866aabc1d286fe11c897cf121d", func := "loop.example/g00285/laws.FnExactList", spec := "fnExactList", inPlace := ["internal/bytealg.CountString", "internal/bytealg.IndexByteString", "internal/bytealg.IndexString"], unfollowed := true, recurses := true, named := ["unicode/utf8.first", "unicode/utf8.acceptRanges", "internal/bytealg.MaxLen"], apart := false, laid := [("unicode/utf8.acceptRanges", laid_unicode_utf8_acceptRanges), ("unicode/utf8.first", laid_unicode_utf8_first)], narrowed := true }
def FnExactListUptoSaid : Prop := fnExactListUptoRow.holds Tryd.pinned (OpenSpec.upto fnExactListSpec)

/-- 'laws.FnExactStat', WHERE WHAT IT READS IS OF BULK AT MOST 1048576: true; the input reads as it did. -/
def fnExactStatUptoRow : OpenClaim := { program := "ytkfcmpalbhmmaaadoor", sum := "3a61f3f4d53a173036e8b35812775b6c049851866aabc1d286fe11c897cf121d", func := "loop.example/g00285/laws.FnExactStat", spec := "fnExactStat", inPlace := ["internal/bytealg.CountString", "internal/bytealg.IndexByteString", "internal/bytealg.IndexString"], unfollowed := true, recurses := true, named := ["unicode/utf8.first", "unicode/utf8.acceptRanges", "internal/bytealg.MaxLen"], apart := false, laid := [("unicode/utf8.acceptRanges", laid_unicode_utf8_acceptRanges), ("unicode/utf8.first", laid_unicode_utf8_first)], narrowed := true }
def FnExactStatUptoSaid : Prop := fnExactStatUptoRow.holds Tryd.pinned (OpenSpec.upto fnExactStatSpec)

end Rows
end Go.Proofs.YtkfcmpalbhmmaaaDoor
