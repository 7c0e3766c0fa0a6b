/-
  NARROWER THAN 'FOR EVERY INPUT', by the rows' own cells (each row's printed sentence says how): FnDeep: laid · FnHoles: laid · FnBigFile: laid · FnFullAttrs: laid · FnLinkCount: laid · FnFullDir: laid · FnMovedTree: laid · FnKinds: laid.
  DERIVED. THE GIVEN ROWS OF THIS SEAT. 8 by the template 'for every input the law returns true; each argument reads behind the call as it read before'; 0 by the template 'total and deterministic' (their statements: YtkcfmbggdkkfeaaGreatDoorTotals.lean).
  GIVEN WITH THE SEED: the statements are not yours to turn. If you find one false, say at which input.
  Laid BY PROGRAM, IN A SANDBOX (cutbox-rows.mjs): the forced cells as the released guide's own fill.sh prints them over the translation cacf1f9976845318… (all of the seat's roots in one cut). By AI agents, Wed Nov 11 2026. No macro, syntax, notation, axiom, sorry.
-/
import Derived.Test.YtkcfmbggdkkfeaaGreatDoorChecked
import GoSem.PinnedTables
import GoSem.Claim
import GoSem.ClaimJoined
import GoSem.ClaimMapViews
import Derived.JoinedTies
import Derived.KernelRfl
namespace Go.Proofs.YtkcfmbggdkkfeaaGreatDoor
/- THE CELL 'sum', in the pinned program and in every row, IS THE sha256 OF THE DUMP (.gsa) THAT YtkcfmbggdkkfeaaGreatDoorProg.lean LOADS. Nothing in Lean hashes anything: it is a label: what it is worth is what the hold of that sum in a sandbox is worth. -/
noncomputable def Tryz.pinned : Pinned := { name := "ytkcfmbggdkkfeaagreatdoor", sum := "cacf1f9976845318c46a52bbca5a9959364b1af1d43b2c7681cae409e02f5ac3", checked := Tryz.checked }
namespace Rows
def none {H : Type} : Left H := { results := [], args := [] }

/- WHAT THE LISTED PACKAGE-LEVEL VARIABLES READ AS WHEN THE CALL BEGINS. Each datum BY PROGRAM (the guide's laid-datum.mjs) off the statement by which the dump's own 'gosem.cut.vars' lays the variable. In a bare row this is a premise. The card (YtkcfmbggdkkfeaaGreatDoorCards.lean) ties it to the program's text. -/
def laid_unicode_utf8_acceptRanges {H : Type} : DataW H := .agg [.agg [.lit (.int .u8 128), .lit (.int .u8 191)], .agg [.lit (.int .u8 160), .lit (.int .u8 191)], .agg [.lit (.int .u8 128), .lit (.int .u8 159)], .agg [.lit (.int .u8 144), .lit (.int .u8 191)], .agg [.lit (.int .u8 128), .lit (.int .u8 143)], .agg [.lit (.int .u8 0), .lit (.int .u8 0)], .agg [.lit (.int .u8 0), .lit (.int .u8 0)], .agg [.lit (.int .u8 0), .lit (.int .u8 0)], .agg [.lit (.int .u8 0), .lit (.int .u8 0)], .agg [.lit (.int .u8 0), .lit (.int .u8 0)], .agg [.lit (.int .u8 0), .lit (.int .u8 0)], .agg [.lit (.int .u8 0), .lit (.int .u8 0)], .agg [.lit (.int .u8 0), .lit (.int .u8 0)], .agg [.lit (.int .u8 0), .lit (.int .u8 0)], .agg [.lit (.int .u8 0), .lit (.int .u8 0)], .agg [.lit (.int .u8 0), .lit (.int .u8 0)]]
/-- One of Go's own tables, pinned by name: the form's constant. -/
def laid_unicode_utf8_first : DataW Unit := Go.Pinned.utf8First

/-- 'laws.FnDeep': WHATEVER THE INPUT: true; the input reads as it did. -/
def fnDeepSpec : ChangeSpec := { name := "fnDeep", fn := fun _ => fun
  | [d] => { results := [.lit (.bool true)], args := [d] }
  | _ => none }
def fnDeepRow : OpenClaim := { program := "ytkcfmbggdkkfeaagreatdoor", sum := "cacf1f9976845318c46a52bbca5a9959364b1af1d43b2c7681cae409e02f5ac3", func := "loop.example/g00285/laws.FnDeep", spec := "fnDeep", inPlace := ["internal/bytealg.CountString", "internal/bytealg.IndexByteString", "internal/bytealg.IndexString", "internal/abi.NoEscape", "internal/bytealg.MakeNoZero", "slices.overlaps[loop.example/g00285/impl.Ent]", "slices.overlaps[loop.example/g00285/impl.Inode]"], unfollowed := true, recurses := true, named := ["unicode/utf8.first", "unicode/utf8.acceptRanges", "internal/bytealg.MaxLen"], apart := false, laid := [("unicode/utf8.acceptRanges", laid_unicode_utf8_acceptRanges), ("unicode/utf8.first", laid_unicode_utf8_first)] }
def FnDeepSaid : Prop := fnDeepRow.holds Tryz.pinned (OpenSpec.ofChange fnDeepSpec)

/-- ITS FALSE NEIGHBOUR: 'it returns false'. Refute it at one input. -/
def fnDeepWrong : ChangeSpec := { name := "fnDeep", fn := fun _ => fun
  | [d] => { results := [.lit (.bool false)], args := [d] }
  | _ => none }
def FnDeepWrongFalsely : Prop := fnDeepRow.holds Tryz.pinned (OpenSpec.ofChange fnDeepWrong)

/-- 'laws.FnHoles': WHATEVER THE INPUT: true; the input reads as it did. -/
def fnHolesSpec : ChangeSpec := { name := "fnHoles", fn := fun _ => fun
  | [d] => { results := [.lit (.bool true)], args := [d] }
  | _ => none }
def fnHolesRow : OpenClaim := { program := "ytkcfmbggdkkfeaagreatdoor", sum := "cacf1f9976845318c46a52bbca5a9959364b1af1d43b2c7681cae409e02f5ac3", func := "loop.example/g00285/laws.FnHoles", spec := "fnHoles", inPlace := ["internal/bytealg.CountString", "internal/bytealg.IndexByteString", "internal/bytealg.IndexString", "internal/abi.NoEscape", "internal/bytealg.MakeNoZero", "slices.overlaps[loop.example/g00285/impl.Ent]", "slices.overlaps[loop.example/g00285/impl.Inode]"], unfollowed := true, recurses := true, named := ["unicode/utf8.first", "unicode/utf8.acceptRanges", "internal/bytealg.MaxLen"], apart := false, laid := [("unicode/utf8.acceptRanges", laid_unicode_utf8_acceptRanges), ("unicode/utf8.first", laid_unicode_utf8_first)] }
def FnHolesSaid : Prop := fnHolesRow.holds Tryz.pinned (OpenSpec.ofChange fnHolesSpec)

/-- ITS FALSE NEIGHBOUR: 'it returns false'. Refute it at one input. -/
def fnHolesWrong : ChangeSpec := { name := "fnHoles", fn := fun _ => fun
  | [d] => { results := [.lit (.bool false)], args := [d] }
  | _ => none }
def FnHolesWrongFalsely : Prop := fnHolesRow.holds Tryz.pinned (OpenSpec.ofChange fnHolesWrong)

/-- 'laws.FnBigFile': WHATEVER THE INPUT: true; the input reads as it did. -/
def fnBigFileSpec : ChangeSpec := { name := "fnBigFile", fn := fun _ => fun
  | [d] => { results := [.lit (.bool true)], args := [d] }
  | _ => none }
def fnBigFileRow : OpenClaim := { program := "ytkcfmbggdkkfeaagreatdoor", sum := "cacf1f9976845318c46a52bbca5a9959364b1af1d43b2c7681cae409e02f5ac3", func := "loop.example/g00285/laws.FnBigFile", spec := "fnBigFile", inPlace := ["internal/bytealg.CountString", "internal/bytealg.IndexByteString", "internal/bytealg.IndexString", "internal/abi.NoEscape", "internal/bytealg.MakeNoZero", "slices.overlaps[loop.example/g00285/impl.Ent]", "slices.overlaps[loop.example/g00285/impl.Inode]"], unfollowed := true, recurses := true, named := ["unicode/utf8.first", "unicode/utf8.acceptRanges", "internal/bytealg.MaxLen"], apart := false, laid := [("unicode/utf8.acceptRanges", laid_unicode_utf8_acceptRanges), ("unicode/utf8.first", laid_unicode_utf8_first)] }
def FnBigFileSaid : Prop := fnBigFileRow.holds Tryz.pinned (OpenSpec.ofChange fnBigFileSpec)

/-- ITS FALSE NEIGHBOUR: 'it returns false'. Refute it at one input. -/
def fnBigFileWrong : ChangeSpec := { name := "fnBigFile", fn := fun _ => fun
  | [d] => { results := [.lit (.bool false)], args := [d] }
  | _ => none }
def FnBigFileWrongFalsely : Prop := fnBigFileRow.holds Tryz.pinned (OpenSpec.ofChange fnBigFileWrong)

/-- 'laws.FnFullAttrs': WHATEVER THE INPUT: true; the input reads as it did. -/
def fnFullAttrsSpec : ChangeSpec := { name := "fnFullAttrs", fn := fun _ => fun
  | [d] => { results := [.lit (.bool true)], args := [d] }
  | _ => none }
def fnFullAttrsRow : OpenClaim := { program := "ytkcfmbggdkkfeaagreatdoor", sum := "cacf1f9976845318c46a52bbca5a9959364b1af1d43b2c7681cae409e02f5ac3", func := "loop.example/g00285/laws.FnFullAttrs", spec := "fnFullAttrs", inPlace := ["internal/bytealg.CountString", "internal/bytealg.IndexByteString", "internal/bytealg.IndexString", "internal/abi.NoEscape", "internal/bytealg.MakeNoZero", "slices.overlaps[loop.example/g00285/impl.Ent]", "slices.overlaps[loop.example/g00285/impl.Inode]", "slices.overlaps[loop.example/g00285/impl.Attr]"], unfollowed := true, recurses := true, named := ["unicode/utf8.first", "unicode/utf8.acceptRanges", "internal/bytealg.MaxLen"], apart := false, laid := [("unicode/utf8.acceptRanges", laid_unicode_utf8_acceptRanges), ("unicode/utf8.first", laid_unicode_utf8_first)] }
def FnFullAttrsSaid : Prop := fnFullAttrsRow.holds Tryz.pinned (OpenSpec.ofChange fnFullAttrsSpec)

/-- ITS FALSE NEIGHBOUR: 'it returns false'. Refute it at one input. -/
def fnFullAttrsWrong : ChangeSpec := { name := "fnFullAttrs", fn := fun _ => fun
  | [d] => { results := [.lit (.bool false)], args := [d] }
  | _ => none }
def FnFullAttrsWrongFalsely : Prop := fnFullAttrsRow.holds Tryz.pinned (OpenSpec.ofChange fnFullAttrsWrong)

/-- 'laws.FnLinkCount': WHATEVER THE INPUT: true; the input reads as it did. -/
def fnLinkCountSpec : ChangeSpec := { name := "fnLinkCount", fn := fun _ => fun
  | [d] => { results := [.lit (.bool true)], args := [d] }
  | _ => none }
def fnLinkCountRow : OpenClaim := { program := "ytkcfmbggdkkfeaagreatdoor", sum := "cacf1f9976845318c46a52bbca5a9959364b1af1d43b2c7681cae409e02f5ac3", func := "loop.example/g00285/laws.FnLinkCount", spec := "fnLinkCount", inPlace := ["internal/bytealg.CountString", "internal/bytealg.IndexByteString", "internal/bytealg.IndexString", "internal/abi.NoEscape", "internal/bytealg.MakeNoZero", "slices.overlaps[loop.example/g00285/impl.Ent]", "slices.overlaps[loop.example/g00285/impl.Inode]"], unfollowed := true, recurses := true, named := ["unicode/utf8.first", "unicode/utf8.acceptRanges", "internal/bytealg.MaxLen"], apart := false, laid := [("unicode/utf8.acceptRanges", laid_unicode_utf8_acceptRanges), ("unicode/utf8.first", laid_unicode_utf8_first)] }
def FnLinkCountSaid : Prop := fnLinkCountRow.holds Tryz.pinned (OpenSpec.ofChange fnLinkCountSpec)

/-- ITS FALSE NEIGHBOUR: 'it returns false'. Refute it at one input. -/
def fnLinkCountWrong : ChangeSpec := { name := "fnLinkCount", fn := fun _ => fun
  | [d] => { results := [.lit (.bool false)], args := [d] }
  | _ => none }
def FnLinkCountWrongFalsely : Prop := fnLinkCountRow.holds Tryz.pinned (OpenSpec.ofChange fnLinkCountWrong)

/-- 'laws.FnFullDir': WHATEVER THE INPUT: true; the input reads as it did. -/
def fnFullDirSpec : ChangeSpec := { name := "fnFullDir", fn := fun _ => fun
  | [d] => { results := [.lit (.bool true)], args := [d] }
  | _ => none }
def fnFullDirRow : OpenClaim := { program := "ytkcfmbggdkkfeaagreatdoor", sum := "cacf1f9976845318c46a52bbca5a9959364b1af1d43b2c7681cae409e02f5ac3", func := "loop.example/g00285/laws.FnFullDir", spec := "fnFullDir", inPlace := ["internal/bytealg.CountString", "internal/bytealg.IndexByteString", "internal/bytealg.IndexString", "internal/abi.NoEscape", "internal/bytealg.MakeNoZero", "slices.overlaps[loop.example/g00285/impl.Ent]", "slices.overlaps[loop.example/g00285/impl.Inode]"], unfollowed := true, recurses := true, named := ["unicode/utf8.first", "unicode/utf8.acceptRanges", "internal/bytealg.MaxLen"], apart := false, laid := [("unicode/utf8.acceptRanges", laid_unicode_utf8_acceptRanges), ("unicode/utf8.first", laid_unicode_utf8_first)] }
def FnFullDirSaid : Prop := fnFullDirRow.holds Tryz.pinned (OpenSpec.ofChange fnFullDirSpec)

/-- ITS FALSE NEIGHBOUR: 'it returns false'. Refute it at one input. -/
def fnFullDirWrong : ChangeSpec := { name := "fnFullDir", fn := fun _ => fun
  | [d] => { results := [.lit (.bool false)], args := [d] }
  | _ => none }
def FnFullDirWrongFalsely : Prop := fnFullDirRow.holds Tryz.pinned (OpenSpec.ofChange fnFullDirWrong)

/-- 'laws.FnMovedTree': WHATEVER THE INPUT: true; the input reads as it did. -/
def fnMovedTreeSpec : ChangeSpec := { name := "fnMovedTree", fn := fun _ => fun
  | [d] => { results := [.lit (.bool true)], args := [d] }
  | _ => none }
def fnMovedTreeRow : OpenClaim := { program := "ytkcfmbggdkkfeaagreatdoor", sum := "cacf1f9976845318c46a52bbca5a9959364b1af1d43b2c7681cae409e02f5ac3", func := "loop.example/g00285/laws.FnMovedTree", spec := "fnMovedTree", inPlace := ["internal/bytealg.CountString", "internal/bytealg.IndexByteString", "internal/bytealg.IndexString", "internal/abi.NoEscape", "internal/bytealg.MakeNoZero", "slices.overlaps[loop.example/g00285/impl.Ent]", "slices.overlaps[loop.example/g00285/impl.Inode]"], unfollowed := true, recurses := true, named := ["unicode/utf8.first", "unicode/utf8.acceptRanges", "internal/bytealg.MaxLen"], apart := false, laid := [("unicode/utf8.acceptRanges", laid_unicode_utf8_acceptRanges), ("unicode/utf8.first", laid_unicode_utf8_first)] }
def FnMovedTreeSaid : Prop := fnMovedTreeRow.holds Tryz.pinned (OpenSpec.ofChange fnMovedTreeSpec)

/-- ITS FALSE NEIGHBOUR: 'it returns false'. Refute it at one input. -/
def fnMovedTreeWrong : ChangeSpec := { name := "fnMovedTree", fn := fun _ => fun
  | [d] => { results := [.lit (.bool false)], args := [d] }
  | _ => none }
def FnMovedTreeWrongFalsely : Prop := fnMovedTreeRow.holds Tryz.pinned (OpenSpec.ofChange fnMovedTreeWrong)

/-- 'laws.FnKinds': WHATEVER THE INPUT: true; the input reads as it did. -/
def fnKindsSpec : ChangeSpec := { name := "fnKinds", fn := fun _ => fun
  | [d] => { results := [.lit (.bool true)], args := [d] }
  | _ => none }
def fnKindsRow : OpenClaim := { program := "ytkcfmbggdkkfeaagreatdoor", sum := "cacf1f9976845318c46a52bbca5a9959364b1af1d43b2c7681cae409e02f5ac3", func := "loop.example/g00285/laws.FnKinds", spec := "fnKinds", inPlace := ["internal/bytealg.CountString", "internal/bytealg.IndexByteString", "internal/bytealg.IndexString", "internal/abi.NoEscape", "internal/bytealg.MakeNoZero", "slices.overlaps[loop.example/g00285/impl.Ent]", "slices.overlaps[loop.example/g00285/impl.Inode]"], unfollowed := true, recurses := true, named := ["unicode/utf8.first", "unicode/utf8.acceptRanges", "internal/bytealg.MaxLen"], apart := false, laid := [("unicode/utf8.acceptRanges", laid_unicode_utf8_acceptRanges), ("unicode/utf8.first", laid_unicode_utf8_first)] }
def FnKindsSaid : Prop := fnKindsRow.holds Tryz.pinned (OpenSpec.ofChange fnKindsSpec)

/-- ITS FALSE NEIGHBOUR: 'it returns false'. Refute it at one input. -/
def fnKindsWrong : ChangeSpec := { name := "fnKinds", fn := fun _ => fun
  | [d] => { results := [.lit (.bool false)], args := [d] }
  | _ => none }
def FnKindsWrongFalsely : Prop := fnKindsRow.holds Tryz.pinned (OpenSpec.ofChange fnKindsWrong)

/- THE SECOND FORM. 'bulk': how many values and letters a reading holds, each counted each time it is reached (what is shared counts as often as it is met; a slice's spare places count too). A statement '..UptoSaid' is the law's where the arguments, and the package variables that the reading takes, are together of bulk at most 1048576: NARROWER than '..Said'. Prove '..Said' where nothing that the law and all that it calls make is longer than what came in: it says more and counts as full. Else prove '..UptoSaid'. A law counts once. -/
mutual
def uptoBulk {H : Type} : DataW H → Nat
  | .lit (.string bytes) => bytes.length + 1
  | .lit _ => 1
  | .nil => 1
  | .ptr d => uptoBulk d + 1
  | .slice elems spare => uptoBulkAll elems + uptoBulkAll spare + 1
  | .agg parts => uptoBulkAll parts + 1
  | .iface _ d => uptoBulk d + 1
  | .map entries => uptoBulkEntries entries + 1
  | .held _ => 1
def uptoBulkAll {H : Type} : List (DataW H) → Nat
  | [] => 0
  | d :: r => uptoBulk d + uptoBulkAll r
def uptoBulkEntries {H : Type} : List (Lit × DataW H) → Nat
  | [] => 0
  | x :: r => uptoBulkEntry x + uptoBulkEntries r
def uptoBulkEntry {H : Type} : Lit × DataW H → Nat
  | (.string bytes, d) => bytes.length + uptoBulk d + 1
  | (_, d) => uptoBulk d + 1
 end
def uptoSmall : (H : Type) → List (DataW H) → Bool := fun _ ds => decide (uptoBulkAll ds ≤ 1048576)
def OpenSpec.upto (s : _root_.Go.ChangeSpec) : _root_.Go.OpenSpec := { _root_.Go.OpenSpec.ofChange s with cond := some uptoSmall }

/-- 'laws.FnDeep', WHERE WHAT IT READS IS OF BULK AT MOST 1048576: true; the input reads as it did. -/
def fnDeepUptoRow : OpenClaim := { program := "ytkcfmbggdkkfeaagreatdoor", sum := "cacf1f9976845318c46a52bbca5a9959364b1af1d43b2c7681cae409e02f5ac3", func := "loop.example/g00285/laws.FnDeep", spec := "fnDeep", inPlace := ["internal/bytealg.CountString", "internal/bytealg.IndexByteString", "internal/bytealg.IndexString", "internal/abi.NoEscape", "internal/bytealg.MakeNoZero", "slices.overlaps[loop.example/g00285/impl.Ent]", "slices.overlaps[loop.example/g00285/impl.Inode]"], unfollowed := true, recurses := true, named := ["unicode/utf8.first", "unicode/utf8.acceptRanges", "internal/bytealg.MaxLen"], apart := false, laid := [("unicode/utf8.acceptRanges", laid_unicode_utf8_acceptRanges), ("unicode/utf8.first", laid_unicode_utf8_first)], narrowed := true }
def FnDeepUptoSaid : Prop := fnDeepUptoRow.holds Tryz.pinned (OpenSpec.upto fnDeepSpec)

/-- 'laws.FnHoles', WHERE WHAT IT READS IS OF BULK AT MOST 1048576: true; the input reads as it did. -/
def fnHolesUptoRow : OpenClaim := { program := "ytkcfmbggdkkfeaagreatdoor", sum := "cacf1f9976845318c46a52bbca5a9959364b1af1d43b2c7681cae409e02f5ac3", func := "loop.example/g00285/laws.FnHoles", spec := "fnHoles", inPlace := ["internal/bytealg.CountString", "internal/bytealg.IndexByteString", "internal/bytealg.IndexString", "internal/abi.NoEscape", "internal/bytealg.MakeNoZero", "slices.overlaps[loop.example/g00285/impl.Ent]", "slices.overlaps[loop.example/g00285/impl.Inode]"], unfollowed := true, recurses := true, named := ["unicode/utf8.first", "unicode/utf8.acceptRanges", "internal/bytealg.MaxLen"], apart := false, laid := [("unicode/utf8.acceptRanges", laid_unicode_utf8_acceptRanges), ("unicode/utf8.first", laid_unicode_utf8_first)], narrowed := true }
def FnHolesUptoSaid : Prop := fnHolesUptoRow.holds Tryz.pinned (OpenSpec.upto fnHolesSpec)

/-- 'laws.FnBigFile', WHERE WHAT IT READS IS OF BULK AT MOST 1048576: true; the input reads as it did. -/
def fnBigFileUptoRow : OpenClaim := { program := "ytkcfmbggdkkfeaagreatdoor", sum := "cacf1f9976845318c46a52bbca5a9959364b1af1d43b2c7681cae409e02f5ac3", func := "loop.example/g00285/laws.FnBigFile", spec := "fnBigFile", inPlace := ["internal/bytealg.CountString", "internal/bytealg.IndexByteString", "internal/bytealg.IndexString", "internal/abi.NoEscape", "internal/bytealg.MakeNoZero", "slices.overlaps[loop.example/g00285/impl.Ent]", "slices.overlaps[loop.example/g00285/impl.Inode]"], unfollowed := true, recurses := true, named := ["unicode/utf8.first", "unicode/utf8.acceptRanges", "internal/bytealg.MaxLen"], apart := false, laid := [("unicode/utf8.acceptRanges", laid_unicode_utf8_acceptRanges), ("unicode/utf8.first", laid_unicode_utf8_first)], narrowed := true }
def FnBigFileUptoSaid : Prop := fnBigFileUptoRow.holds Tryz.pinned (OpenSpec.upto fnBigFileSpec)

/-- 'laws.FnFullAttrs', WHERE WHAT IT READS IS OF BULK AT MOST 1048576: true; the input reads as it did. -/
def fnFullAttrsUptoRow : OpenClaim := { program := "ytkcfmbggdkkfeaagreatdoor", sum := "cacf1f9976845318c46a52bbca5a9959364b1af1d43b2c7681cae409e02f5ac3", func := "loop.example/g00285/laws.FnFullAttrs", spec := "fnFullAttrs", inPlace := ["internal/bytealg.CountString", "internal/bytealg.IndexByteString", "internal/bytealg.IndexString", "internal/abi.NoEscape", "internal/bytealg.MakeNoZero", "slices.overlaps[loop.example/g00285/impl.Ent]", "slices.overlaps[loop.example/g00285/impl.Inode]", "slices.overlaps[loop.example/g00285/impl.Attr]"], unfollowed := true, recurses := true, named := ["unicode/utf8.first", "unicode/utf8.acceptRanges", "internal/bytealg.MaxLen"], apart := false, laid := [("unicode/utf8.acceptRanges", laid_unicode_utf8_acceptRanges), ("unicode/utf8.first", laid_unicode_utf8_first)], narrowed := true }
def FnFullAttrsUptoSaid : Prop := fnFullAttrsUptoRow.holds Tryz.pinned (OpenSpec.upto fnFullAttrsSpec)

/-- 'laws.FnLinkCount', WHERE WHAT IT READS IS OF BULK AT MOST 1048576: true; the input reads as it did. -/
def fnLinkCountUptoRow : OpenClaim := { program := "ytkcfmbggdkkfeaagreatdoor", sum := "cacf1f9976845318c46a52bbca5a9959364b1af1d43b2c7681cae409e02f5ac3", func := "loop.example/g00285/laws.FnLinkCount", spec := "fnLinkCount", inPlace := ["internal/bytealg.CountString", "internal/bytealg.IndexByteString", "internal/bytealg.IndexString", "internal/abi.NoEscape", "internal/bytealg.MakeNoZero", "slices.overlaps[loop.example/g00285/impl.Ent]", "slices.overlaps[loop.example/g00285/impl.Inode]"], unfollowed := true, recurses := true, named := ["unicode/utf8.first", "unicode/utf8.acceptRanges", "internal/bytealg.MaxLen"], apart := false, laid := [("unicode/utf8.acceptRanges", laid_unicode_utf8_acceptRanges), ("unicode/utf8.first", laid_unicode_utf8_first)], narrowed := true }
def FnLinkCountUptoSaid : Prop := fnLinkCountUptoRow.holds Tryz.pinned (OpenSpec.upto fnLinkCountSpec)

/-- 'laws.FnFullDir', WHERE WHAT IT READS IS OF BULK AT MOST 1048576: true; the input reads as it did. -/
def fnFullDirUptoRow : OpenClaim := { program := "ytkcfmbggdkkfeaagreatdoor", sum := "cacf1f9976845318c46a52bbca5a9959364b1af1d43b2c7681cae409e02f5ac3", func := "loop.example/g00285/laws.FnFullDir", spec := "fnFullDir", inPlace := ["internal/bytealg.CountString", "internal/bytealg.IndexByteString", "internal/bytealg.IndexString", "internal/abi.NoEscape", "internal/bytealg.MakeNoZero", "slices.overlaps[loop.example/g00285/impl.Ent]", "slices.overlaps[loop.example/g00285/impl.Inode]"], unfollowed := true, recurses := true, named := ["unicode/utf8.first", "unicode/utf8.acceptRanges", "internal/bytealg.MaxLen"], apart := false, laid := [("unicode/utf8.acceptRanges", laid_unicode_utf8_acceptRanges), ("unicode/utf8.first", laid_unicode_utf8_first)], narrowed := true }
def FnFullDirUptoSaid : Prop := fnFullDirUptoRow.holds Tryz.pinned (OpenSpec.upto fnFullDirSpec)

/-- 'laws.FnMovedTree', WHERE WHAT IT READS IS OF BULK AT MOST 1048576: true; the input reads as it did. -/
def fnMovedTreeUptoRow : OpenClaim := { program := "ytkcfmbggdkkfeaagreatdoor", sum := "cacf1f9976845318c46a52bbca5a9959364b1af1d43b2c7681cae409e02f5ac3", func := "loop.example/g00285/laws.FnMovedTree", spec := "fnMovedTree", inPlace := ["internal/bytealg.CountString", "internal/bytealg.IndexByteString", "internal/bytealg.IndexString", "internal/abi.NoEscape", "internal/bytealg.MakeNoZero", "slices.overlaps[loop.example/g00285/impl.Ent]", "slices.overlaps[loop.example/g00285/impl.Inode]"], unfollowed := true, recurses := true, named := ["unicode/utf8.first", "unicode/utf8.acceptRanges", "internal/bytealg.MaxLen"], apart := false, laid := [("unicode/utf8.acceptRanges", laid_unicode_utf8_acceptRanges), ("unicode/utf8.first", laid_unicode_utf8_first)], narrowed := true }
def FnMovedTreeUptoSaid : Prop := fnMovedTreeUptoRow.holds Tryz.pinned (OpenSpec.upto fnMovedTreeSpec)

/-- 'laws.FnKinds', WHERE WHAT IT READS IS OF BULK AT MOST 1048576: true; the input reads as it did. -/
def fnKindsUptoRow : OpenClaim := { program := "ytkcfmbggdkkfeaagreatdoor", sum := "cacf1f9976845318c46a52bbca5a9959364b1af1d43b2c7681cae409e02f5ac3", func := "loop.example/g00285/laws.FnKinds", spec := "fnKinds", inPlace := ["internal/bytealg.CountString", "internal/bytealg.IndexByteString", "internal/bytealg.IndexString", "internal/abi.NoEscape", "internal/bytealg.MakeNoZero", "slices.overlaps[loop.example/g00285/impl.Ent]", "slices.overlaps[loop.example/g00285/impl.Inode]"], unfollowed := true, recurses := true, named := ["unicode/utf8.first", "unicode/utf8.acceptRanges", "internal/bytealg.MaxLen"], apart := false, laid := [("unicode/utf8.acceptRanges", laid_unicode_utf8_acceptRanges), ("unicode/utf8.first", laid_unicode_utf8_first)], narrowed := true }
def FnKindsUptoSaid : Prop := fnKindsUptoRow.holds Tryz.pinned (OpenSpec.upto fnKindsSpec)

end Rows
end Go.Proofs.YtkcfmbggdkkfeaaGreatDoor
