/-
  NARROWER THAN 'FOR EVERY INPUT', by the rows' own cells (each row's printed sentence says how): FnExactMakeFile: laid · FnExactRemoveDir: laid · FnExactHardLink: laid · FnExactTruncate: laid · FnExactWriteAt: laid · FnExactSetAttr: laid · FnExactMakeDir: laid.
  DERIVED. THE GIVEN ROWS OF THIS SEAT. 7 by the template 'for every input the law returns true; each argument reads behind the call as it read before'; 0 by the template 'total and deterministic' (their statements: YtlecajlnjmbilaaGreatDoorTotals.lean).
  GIVEN WITH THE SEED: the statements are not yours to turn. If you find one false, say at which input.
  Laid BY PROGRAM, IN A SANDBOX (cutbox-rows.mjs): the forced cells as the released guide's own fill.sh prints them over the translation cadb640f1db6b800… (all of the seat's roots in one cut). By AI agents, Wed Nov 11 2026. No macro, syntax, notation, axiom, sorry.
-/
import Derived.Test.YtlecajlnjmbilaaGreatDoorChecked
import GoSem.PinnedTables
import GoSem.Claim
import GoSem.ClaimJoined
import GoSem.ClaimMapViews
import Derived.JoinedTies
import Derived.KernelRfl
namespace Go.Proofs.YtlecajlnjmbilaaGreatDoor
/- THE CELL 'sum', in the pinned program and in every row, IS THE sha256 OF THE DUMP (.gsa) THAT YtlecajlnjmbilaaGreatDoorProg.lean LOADS. Nothing in Lean hashes anything: it is a label: what it is worth is what the hold of that sum in a sandbox is worth. -/
noncomputable def Tryz.pinned : Pinned := { name := "ytlecajlnjmbilaagreatdoor", sum := "cadb640f1db6b800baab89155715396ee388b0756b7ab74a77a05beb21084d9a", checked := Tryz.checked }
namespace Rows
def none {H : Type} : Left H := { results := [], args := [] }

/- WHAT THE LISTED PACKAGE-LEVEL VARIABLES READ AS WHEN THE CALL BEGINS. Each datum BY PROGRAM (the guide's laid-datum.mjs) off the statement by which the dump's own 'gosem.cut.vars' lays the variable. In a bare row this is a premise. The card (YtlecajlnjmbilaaGreatDoorCards.lean) ties it to the program's text. -/
def laid_unicode_utf8_acceptRanges {H : Type} : DataW H := .agg [.agg [.lit (.int .u8 128), .lit (.int .u8 191)], .agg [.lit (.int .u8 160), .lit (.int .u8 191)], .agg [.lit (.int .u8 128), .lit (.int .u8 159)], .agg [.lit (.int .u8 144), .lit (.int .u8 191)], .agg [.lit (.int .u8 128), .lit (.int .u8 143)], .agg [.lit (.int .u8 0), .lit (.int .u8 0)], .agg [.lit (.int .u8 0), .lit (.int .u8 0)], .agg [.lit (.int .u8 0), .lit (.int .u8 0)], .agg [.lit (.int .u8 0), .lit (.int .u8 0)], .agg [.lit (.int .u8 0), .lit (.int .u8 0)], .agg [.lit (.int .u8 0), .lit (.int .u8 0)], .agg [.lit (.int .u8 0), .lit (.int .u8 0)], .agg [.lit (.int .u8 0), .lit (.int .u8 0)], .agg [.lit (.int .u8 0), .lit (.int .u8 0)], .agg [.lit (.int .u8 0), .lit (.int .u8 0)], .agg [.lit (.int .u8 0), .lit (.int .u8 0)]]
/-- One of Go's own tables, pinned by name: the form's constant. -/
def laid_unicode_utf8_first : DataW Unit := Go.Pinned.utf8First

/-- 'laws.FnExactMakeFile': WHATEVER THE INPUT: true; the input reads as it did. -/
def fnExactMakeFileSpec : ChangeSpec := { name := "fnExactMakeFile", fn := fun _ => fun
  | [d1, d2] => { results := [.lit (.bool true)], args := [d1, d2] }
  | _ => none }
def fnExactMakeFileRow : OpenClaim := { program := "ytlecajlnjmbilaagreatdoor", sum := "cadb640f1db6b800baab89155715396ee388b0756b7ab74a77a05beb21084d9a", func := "loop.example/g00285/laws.FnExactMakeFile", spec := "fnExactMakeFile", inPlace := ["internal/bytealg.CountString", "internal/bytealg.IndexByteString", "internal/bytealg.IndexString", "internal/abi.NoEscape", "internal/bytealg.MakeNoZero", "slices.overlaps[loop.example/g00285/impl.Ent]", "slices.overlaps[loop.example/g00285/impl.Inode]"], unfollowed := true, recurses := true, named := ["unicode/utf8.first", "unicode/utf8.acceptRanges", "internal/bytealg.MaxLen"], apart := false, laid := [("unicode/utf8.acceptRanges", laid_unicode_utf8_acceptRanges), ("unicode/utf8.first", laid_unicode_utf8_first)] }
def FnExactMakeFileSaid : Prop := fnExactMakeFileRow.holds Tryz.pinned (OpenSpec.ofChange fnExactMakeFileSpec)

/-- ITS FALSE NEIGHBOUR: 'it returns false'. Refute it at one input. -/
def fnExactMakeFileWrong : ChangeSpec := { name := "fnExactMakeFile", fn := fun _ => fun
  | [d1, d2] => { results := [.lit (.bool false)], args := [d1, d2] }
  | _ => none }
def FnExactMakeFileWrongFalsely : Prop := fnExactMakeFileRow.holds Tryz.pinned (OpenSpec.ofChange fnExactMakeFileWrong)

/-- 'laws.FnExactRemoveDir': WHATEVER THE INPUT: true; the input reads as it did. -/
def fnExactRemoveDirSpec : ChangeSpec := { name := "fnExactRemoveDir", fn := fun _ => fun
  | [d1, d2] => { results := [.lit (.bool true)], args := [d1, d2] }
  | _ => none }
def fnExactRemoveDirRow : OpenClaim := { program := "ytlecajlnjmbilaagreatdoor", sum := "cadb640f1db6b800baab89155715396ee388b0756b7ab74a77a05beb21084d9a", func := "loop.example/g00285/laws.FnExactRemoveDir", spec := "fnExactRemoveDir", inPlace := ["internal/bytealg.CountString", "internal/bytealg.IndexByteString", "internal/bytealg.IndexString", "internal/abi.NoEscape", "internal/bytealg.MakeNoZero", "slices.overlaps[loop.example/g00285/impl.Inode]"], unfollowed := true, recurses := true, named := ["unicode/utf8.first", "unicode/utf8.acceptRanges", "internal/bytealg.MaxLen"], apart := false, laid := [("unicode/utf8.acceptRanges", laid_unicode_utf8_acceptRanges), ("unicode/utf8.first", laid_unicode_utf8_first)] }
def FnExactRemoveDirSaid : Prop := fnExactRemoveDirRow.holds Tryz.pinned (OpenSpec.ofChange fnExactRemoveDirSpec)

/-- ITS FALSE NEIGHBOUR: 'it returns false'. Refute it at one input. -/
def fnExactRemoveDirWrong : ChangeSpec := { name := "fnExactRemoveDir", fn := fun _ => fun
  | [d1, d2] => { results := [.lit (.bool false)], args := [d1, d2] }
  | _ => none }
def FnExactRemoveDirWrongFalsely : Prop := fnExactRemoveDirRow.holds Tryz.pinned (OpenSpec.ofChange fnExactRemoveDirWrong)

/-- 'laws.FnExactHardLink': WHATEVER THE INPUT: true; the input reads as it did. -/
def fnExactHardLinkSpec : ChangeSpec := { name := "fnExactHardLink", fn := fun _ => fun
  | [d1, d2, d3] => { results := [.lit (.bool true)], args := [d1, d2, d3] }
  | _ => none }
def fnExactHardLinkRow : OpenClaim := { program := "ytlecajlnjmbilaagreatdoor", sum := "cadb640f1db6b800baab89155715396ee388b0756b7ab74a77a05beb21084d9a", func := "loop.example/g00285/laws.FnExactHardLink", spec := "fnExactHardLink", inPlace := ["internal/bytealg.CountString", "internal/bytealg.IndexByteString", "internal/bytealg.IndexString", "internal/abi.NoEscape", "internal/bytealg.MakeNoZero", "slices.overlaps[loop.example/g00285/impl.Ent]", "slices.overlaps[loop.example/g00285/impl.Inode]"], unfollowed := true, recurses := true, named := ["unicode/utf8.first", "unicode/utf8.acceptRanges", "internal/bytealg.MaxLen"], apart := false, laid := [("unicode/utf8.acceptRanges", laid_unicode_utf8_acceptRanges), ("unicode/utf8.first", laid_unicode_utf8_first)] }
def FnExactHardLinkSaid : Prop := fnExactHardLinkRow.holds Tryz.pinned (OpenSpec.ofChange fnExactHardLinkSpec)

/-- ITS FALSE NEIGHBOUR: 'it returns false'. Refute it at one input. -/
def fnExactHardLinkWrong : ChangeSpec := { name := "fnExactHardLink", fn := fun _ => fun
  | [d1, d2, d3] => { results := [.lit (.bool false)], args := [d1, d2, d3] }
  | _ => none }
def FnExactHardLinkWrongFalsely : Prop := fnExactHardLinkRow.holds Tryz.pinned (OpenSpec.ofChange fnExactHardLinkWrong)

/-- 'laws.FnExactTruncate': WHATEVER THE INPUT: true; the input reads as it did. -/
def fnExactTruncateSpec : ChangeSpec := { name := "fnExactTruncate", fn := fun _ => fun
  | [d1, d2, d3] => { results := [.lit (.bool true)], args := [d1, d2, d3] }
  | _ => none }
def fnExactTruncateRow : OpenClaim := { program := "ytlecajlnjmbilaagreatdoor", sum := "cadb640f1db6b800baab89155715396ee388b0756b7ab74a77a05beb21084d9a", func := "loop.example/g00285/laws.FnExactTruncate", spec := "fnExactTruncate", inPlace := ["internal/bytealg.CountString", "internal/bytealg.IndexByteString", "internal/bytealg.IndexString", "slices.overlaps[loop.example/g00285/impl.Inode]"], unfollowed := true, recurses := true, named := ["unicode/utf8.first", "unicode/utf8.acceptRanges", "internal/bytealg.MaxLen"], apart := false, laid := [("unicode/utf8.acceptRanges", laid_unicode_utf8_acceptRanges), ("unicode/utf8.first", laid_unicode_utf8_first)] }
def FnExactTruncateSaid : Prop := fnExactTruncateRow.holds Tryz.pinned (OpenSpec.ofChange fnExactTruncateSpec)

/-- ITS FALSE NEIGHBOUR: 'it returns false'. Refute it at one input. -/
def fnExactTruncateWrong : ChangeSpec := { name := "fnExactTruncate", fn := fun _ => fun
  | [d1, d2, d3] => { results := [.lit (.bool false)], args := [d1, d2, d3] }
  | _ => none }
def FnExactTruncateWrongFalsely : Prop := fnExactTruncateRow.holds Tryz.pinned (OpenSpec.ofChange fnExactTruncateWrong)

/-- 'laws.FnExactWriteAt': WHATEVER THE INPUT: true; the input reads as it did. -/
def fnExactWriteAtSpec : ChangeSpec := { name := "fnExactWriteAt", fn := fun _ => fun
  | [d1, d2, d3, d4] => { results := [.lit (.bool true)], args := [d1, d2, d3, d4] }
  | _ => none }
def fnExactWriteAtRow : OpenClaim := { program := "ytlecajlnjmbilaagreatdoor", sum := "cadb640f1db6b800baab89155715396ee388b0756b7ab74a77a05beb21084d9a", func := "loop.example/g00285/laws.FnExactWriteAt", spec := "fnExactWriteAt", inPlace := ["internal/bytealg.CountString", "internal/bytealg.IndexByteString", "internal/bytealg.IndexString", "slices.overlaps[loop.example/g00285/impl.Inode]"], unfollowed := true, recurses := true, named := ["unicode/utf8.first", "unicode/utf8.acceptRanges", "internal/bytealg.MaxLen"], apart := false, laid := [("unicode/utf8.acceptRanges", laid_unicode_utf8_acceptRanges), ("unicode/utf8.first", laid_unicode_utf8_first)] }
def FnExactWriteAtSaid : Prop := fnExactWriteAtRow.holds Tryz.pinned (OpenSpec.ofChange fnExactWriteAtSpec)

/-- ITS FALSE NEIGHBOUR: 'it returns false'. Refute it at one input. -/
def fnExactWriteAtWrong : ChangeSpec := { name := "fnExactWriteAt", fn := fun _ => fun
  | [d1, d2, d3, d4] => { results := [.lit (.bool false)], args := [d1, d2, d3, d4] }
  | _ => none }
def FnExactWriteAtWrongFalsely : Prop := fnExactWriteAtRow.holds Tryz.pinned (OpenSpec.ofChange fnExactWriteAtWrong)

/-- 'laws.FnExactSetAttr': WHATEVER THE INPUT: true; the input reads as it did. -/
def fnExactSetAttrSpec : ChangeSpec := { name := "fnExactSetAttr", fn := fun _ => fun
  | [d1, d2, d3, d4] => { results := [.lit (.bool true)], args := [d1, d2, d3, d4] }
  | _ => none }
def fnExactSetAttrRow : OpenClaim := { program := "ytlecajlnjmbilaagreatdoor", sum := "cadb640f1db6b800baab89155715396ee388b0756b7ab74a77a05beb21084d9a", func := "loop.example/g00285/laws.FnExactSetAttr", spec := "fnExactSetAttr", inPlace := ["internal/bytealg.CountString", "internal/bytealg.IndexByteString", "internal/bytealg.IndexString", "slices.overlaps[loop.example/g00285/impl.Attr]", "slices.overlaps[loop.example/g00285/impl.Inode]"], unfollowed := true, recurses := true, named := ["unicode/utf8.first", "unicode/utf8.acceptRanges", "internal/bytealg.MaxLen"], apart := false, laid := [("unicode/utf8.acceptRanges", laid_unicode_utf8_acceptRanges), ("unicode/utf8.first", laid_unicode_utf8_first)] }
def FnExactSetAttrSaid : Prop := fnExactSetAttrRow.holds Tryz.pinned (OpenSpec.ofChange fnExactSetAttrSpec)

/-- ITS FALSE NEIGHBOUR: 'it returns false'. Refute it at one input. -/
def fnExactSetAttrWrong : ChangeSpec := { name := "fnExactSetAttr", fn := fun _ => fun
  | [d1, d2, d3, d4] => { results := [.lit (.bool false)], args := [d1, d2, d3, d4] }
  | _ => none }
def FnExactSetAttrWrongFalsely : Prop := fnExactSetAttrRow.holds Tryz.pinned (OpenSpec.ofChange fnExactSetAttrWrong)

/-- 'laws.FnExactMakeDir': WHATEVER THE INPUT: true; the input reads as it did. -/
def fnExactMakeDirSpec : ChangeSpec := { name := "fnExactMakeDir", fn := fun _ => fun
  | [d1, d2] => { results := [.lit (.bool true)], args := [d1, d2] }
  | _ => none }
def fnExactMakeDirRow : OpenClaim := { program := "ytlecajlnjmbilaagreatdoor", sum := "cadb640f1db6b800baab89155715396ee388b0756b7ab74a77a05beb21084d9a", func := "loop.example/g00285/laws.FnExactMakeDir", spec := "fnExactMakeDir", inPlace := ["internal/bytealg.CountString", "internal/bytealg.IndexByteString", "internal/bytealg.IndexString", "internal/abi.NoEscape", "internal/bytealg.MakeNoZero", "slices.overlaps[loop.example/g00285/impl.Ent]", "slices.overlaps[loop.example/g00285/impl.Inode]"], unfollowed := true, recurses := true, named := ["unicode/utf8.first", "unicode/utf8.acceptRanges", "internal/bytealg.MaxLen"], apart := false, laid := [("unicode/utf8.acceptRanges", laid_unicode_utf8_acceptRanges), ("unicode/utf8.first", laid_unicode_utf8_first)] }
def FnExactMakeDirSaid : Prop := fnExactMakeDirRow.holds Tryz.pinned (OpenSpec.ofChange fnExactMakeDirSpec)

/-- ITS FALSE NEIGHBOUR: 'it returns false'. Refute it at one input. -/
def fnExactMakeDirWrong : ChangeSpec := { name := "fnExactMakeDir", fn := fun _ => fun
  | [d1, d2] => { results := [.lit (.bool false)], args := [d1, d2] }
  | _ => none }
def FnExactMakeDirWrongFalsely : Prop := fnExactMakeDirRow.holds Tryz.pinned (OpenSpec.ofChange fnExactMakeDirWrong)

/- THE SECOND FORM. 'bulk': how many values and letters a reading holds, each counted each time it is reached (what is shared counts as often as it is met; a slice's spare places count too). A statement '..UptoSaid' is the law's where the arguments, and the package variables that the reading takes, are together of bulk at most 1048576: NARROWER than '..Said'. Prove '..Said' where nothing that the law and all that it calls make is longer than what came in: it says more and counts as full. Else prove '..UptoSaid'. A law counts once. -/
mutual
def uptoBulk {H : Type} : DataW H → Nat
  | .lit (.string bytes) => bytes.length + 1
  | .lit _ => 1
  | .nil => 1
  | .ptr d => uptoBulk d + 1
  | .slice elems spare => uptoBulkAll elems + uptoBulkAll spare + 1
  | .agg parts => uptoBulkAll parts + 1
  | .iface _ d => uptoBulk d + 1
  | .map entries => uptoBulkEntries entries + 1
  | .held _ => 1
def uptoBulkAll {H : Type} : List (DataW H) → Nat
  | [] => 0
  | d :: r => uptoBulk d + uptoBulkAll r
def uptoBulkEntries {H : Type} : List (Lit × DataW H) → Nat
  | [] => 0
  | x :: r => uptoBulkEntry x + uptoBulkEntries r
def uptoBulkEntry {H : Type} : Lit × DataW H → Nat
  | (.string bytes, d) => bytes.length + uptoBulk d + 1
  | (_, d) => uptoBulk d + 1
 end
def uptoSmall : (H : Type) → List (DataW H) → Bool := fun _ ds => decide (uptoBulkAll ds ≤ 1048576)
def OpenSpec.upto (s : _root_.Go.ChangeSpec) : _root_.Go.OpenSpec := { _root_.Go.OpenSpec.ofChange s with cond := some uptoSmall }

/-- 'laws.FnExactMakeFile', WHERE WHAT IT READS IS OF BULK AT MOST 1048576: true; the input reads as it did. -/
def fnExactMakeFileUptoRow : OpenClaim := { program := "ytlecajlnjmbilaagreatdoor", sum := "cadb640f1db6b800baab89155715396ee388b0756b7ab74a77a05beb21084d9a", func := "loop.example/g00285/laws.FnExactMakeFile", spec := "fnExactMakeFile", inPlace := ["internal/bytealg.CountString", "internal/bytealg.IndexByteString", "internal/bytealg.IndexString", "internal/abi.NoEscape", "internal/bytealg.MakeNoZero", "slices.overlaps[loop.example/g00285/impl.Ent]", "slices.overlaps[loop.example/g00285/impl.Inode]"], unfollowed := true, recurses := true, named := ["unicode/utf8.first", "unicode/utf8.acceptRanges", "internal/bytealg.MaxLen"], apart := false, laid := [("unicode/utf8.acceptRanges", laid_unicode_utf8_acceptRanges), ("unicode/utf8.first", laid_unicode_utf8_first)], narrowed := true }
def FnExactMakeFileUptoSaid : Prop := fnExactMakeFileUptoRow.holds Tryz.pinned (OpenSpec.upto fnExactMakeFileSpec)

/-- 'laws.FnExactRemoveDir', WHERE WHAT IT READS IS OF BULK AT MOST 1048576: true; the input reads as it did. -/
def fnExactRemoveDirUptoRow : OpenClaim := { program := "ytlecajlnjmbilaagreatdoor", sum := "cadb640f1db6b800baab89155715396ee388b0756b7ab74a77a05beb21084d9a", func := "loop.example/g00285/laws.FnExactRemoveDir", spec := "fnExactRemoveDir", inPlace := ["internal/bytealg.CountString", "internal/bytealg.IndexByteString", "internal/bytealg.IndexString", "internal/abi.NoEscape", "internal/bytealg.MakeNoZero", "slices.overlaps[loop.example/g00285/impl.Inode]"], unfollowed := true, recurses := true, named := ["unicode/utf8.first", "unicode/utf8.acceptRanges", "internal/bytealg.MaxLen"], apart := false, laid := [("unicode/utf8.acceptRanges", laid_unicode_utf8_acceptRanges), ("unicode/utf8.first", laid_unicode_utf8_first)], narrowed := true }
def FnExactRemoveDirUptoSaid : Prop := fnExactRemoveDirUptoRow.holds Tryz.pinned (OpenSpec.upto fnExactRemoveDirSpec)

/-- 'laws.FnExactHardLink', WHERE WHAT IT READS IS OF BULK AT MOST 1048576: true; the input reads as it did. -/
def fnExactHardLinkUptoRow : OpenClaim := { program := "ytlecajlnjmbilaagreatdoor", sum := "cadb640f1db6b800baab89155715396ee388b0756b7ab74a77a05beb21084d9a", func := "loop.example/g00285/laws.FnExactHardLink", spec := "fnExactHardLink", inPlace := ["internal/bytealg.CountString", "internal/bytealg.IndexByteString", "internal/bytealg.IndexString", "internal/abi.NoEscape", "internal/bytealg.MakeNoZero", "slices.overlaps[loop.example/g00285/impl.Ent]", "slices.overlaps[loop.example/g00285/impl.Inode]"], unfollowed := true, recurses := true, named := ["unicode/utf8.first", "unicode/utf8.acceptRanges", "internal/bytealg.MaxLen"], apart := false, laid := [("unicode/utf8.acceptRanges", laid_unicode_utf8_acceptRanges), ("unicode/utf8.first", laid_unicode_utf8_first)], narrowed := true }
def FnExactHardLinkUptoSaid : Prop := fnExactHardLinkUptoRow.holds Tryz.pinned (OpenSpec.upto fnExactHardLinkSpec)

/-- 'laws.FnExactTruncate', WHERE WHAT IT READS IS OF BULK AT MOST 1048576: true; the input reads as it did. -/
def fnExactTruncateUptoRow : OpenClaim := { program := "ytlecajlnjmbilaagreatdoor", sum := "cadb640f1db6b800baab89155715396ee388b0756b7ab74a77a05beb21084d9a", func := "loop.example/g00285/laws.FnExactTruncate", spec := "fnExactTruncate", inPlace := ["internal/bytealg.CountString", "internal/bytealg.IndexByteString", "internal/bytealg.IndexString", "slices.overlaps[loop.example/g00285/impl.Inode]"], unfollowed := true, recurses := true, named := ["unicode/utf8.first", "unicode/utf8.acceptRanges", "internal/bytealg.MaxLen"], apart := false, laid := [("unicode/utf8.acceptRanges", laid_unicode_utf8_acceptRanges), ("unicode/utf8.first", laid_unicode_utf8_first)], narrowed := true }
def FnExactTruncateUptoSaid : Prop := fnExactTruncateUptoRow.holds Tryz.pinned (OpenSpec.upto fnExactTruncateSpec)

/-- 'laws.FnExactWriteAt', WHERE WHAT IT READS IS OF BULK AT MOST 1048576: true; the input reads as it did. -/
def fnExactWriteAtUptoRow : OpenClaim := { program := "ytlecajlnjmbilaagreatdoor", sum := "cadb640f1db6b800baab89155715396ee388b0756b7ab74a77a05beb21084d9a", func := "loop.example/g00285/laws.FnExactWriteAt", spec := "fnExactWriteAt", inPlace := ["internal/bytealg.CountString", "internal/bytealg.IndexByteString", "internal/bytealg.IndexString", "slices.overlaps[loop.example/g00285/impl.Inode]"], unfollowed := true, recurses := true, named := ["unicode/utf8.first", "unicode/utf8.acceptRanges", "internal/bytealg.MaxLen"], apart := false, laid := [("unicode/utf8.acceptRanges", laid_unicode_utf8_acceptRanges), ("unicode/utf8.first", laid_unicode_utf8_first)], narrowed := true }
def FnExactWriteAtUptoSaid : Prop := fnExactWriteAtUptoRow.holds Tryz.pinned (OpenSpec.upto fnExactWriteAtSpec)

/-- 'laws.FnExactSetAttr', WHERE WHAT IT READS IS OF BULK AT MOST 1048576: true; the input reads as it did. -/
def fnExactSetAttrUptoRow : OpenClaim := { program := "ytlecajlnjmbilaagreatdoor", sum := "cadb640f1db6b800baab89155715396ee388b0756b7ab74a77a05beb21084d9a", func := "loop.example/g00285/laws.FnExactSetAttr", spec := "fnExactSetAttr", inPlace := ["internal/bytealg.CountString", "internal/bytealg.IndexByteString", "internal/bytealg.IndexString", "slices.overlaps[loop.example/g00285/impl.Attr]", "slices.overlaps[loop.example/g00285/impl.Inode]"], unfollowed := true, recurses := true, named := ["unicode/utf8.first", "unicode/utf8.acceptRanges", "internal/bytealg.MaxLen"], apart := false, laid := [("unicode/utf8.acceptRanges", laid_unicode_utf8_acceptRanges), ("unicode/utf8.first", laid_unicode_utf8_first)], narrowed := true }
def FnExactSetAttrUptoSaid : Prop := fnExactSetAttrUptoRow.holds Tryz.pinned (OpenSpec.upto fnExactSetAttrSpec)

/-- 'laws.FnExactMakeDir', WHERE WHAT IT READS IS OF BULK AT MOST 1048576: true; the input reads as it did. -/
def fnExactMakeDirUptoRow : OpenClaim := { program := "ytlecajlnjmbilaagreatdoor", sum := "cadb640f1db6b800baab89155715396ee388b0756b7ab74a77a05beb21084d9a", func := "loop.example/g00285/laws.FnExactMakeDir", spec := "fnExactMakeDir", inPlace := ["internal/bytealg.CountString", "internal/bytealg.IndexByteString", "internal/bytealg.IndexString", "internal/abi.NoEscape", "internal/bytealg.MakeNoZero", "slices.overlaps[loop.example/g00285/impl.Ent]", "slices.overlaps[loop.example/g00285/impl.Inode]"], unfollowed := true, recurses := true, named := ["unicode/utf8.first", "unicode/utf8.acceptRanges", "internal/bytealg.MaxLen"], apart := false, laid := [("unicode/utf8.acceptRanges", laid_unicode_utf8_acceptRanges), ("unicode/utf8.first", laid_unicode_utf8_first)], narrowed := true }
def FnExactMakeDirUptoSaid : Prop := fnExactMakeDirUptoRow.holds Tryz.pinned (OpenSpec.upto fnExactMakeDirSpec)

end Rows
end Go.Proofs.YtlecajlnjmbilaaGreatDoor
