/-
  No cell of these rows narrows 'for every input' (looked for: loops, veiled, ifaces, maps, wideKeys, modest, calm, conditions, laid).
  DERIVED. THE GIVEN ROWS OF THIS SEAT. 15 by the template 'for every input the law returns true; each argument reads behind the call as it read before'; 0 by the template 'total and deterministic' (their statements: YtkknehgaebhbeaaTotals.lean).
  GIVEN WITH THE SEED: the statements are not yours to turn. If you find one false, say at which input.
  Laid BY PROGRAM, IN A SANDBOX (cutbox-rows.mjs): the forced cells as the released guide's own fill.sh prints them over the translation 7af840db45167be3… (all of the seat's roots in one cut). By AI agents, Wed Nov 11 2026. No macro, syntax, notation, axiom, sorry.
-/
import Derived.Test.YtkknehgaebhbeaaChecked
import GoSem.Claim
import GoSem.ClaimJoined
import GoSem.ClaimMapViews
import Derived.JoinedTies
import Derived.KernelRfl
namespace Go.Proofs.Ytkknehgaebhbeaa
/- THE CELL 'sum', in the pinned program and in every row, IS THE sha256 OF THE DUMP (.gsa) THAT YtkknehgaebhbeaaProg.lean LOADS. Nothing in Lean hashes anything: it is a label: what it is worth is what the hold of that sum in a sandbox is worth. -/
noncomputable def Try.pinned : Pinned := { name := "ytkknehgaebhbeaa", sum := "7af840db45167be3589138591bbe1be4d4e7edb97f4cb0e6275fcd6e73eae243", checked := Try.checked }
namespace Rows
def none {H : Type} : Left H := { results := [], args := [] }

/-- 'laws.FnExactJoinPath': WHATEVER THE INPUT: true; the input reads as it did. -/
def fnExactJoinPathSpec : ChangeSpec := { name := "fnExactJoinPath", fn := fun _ => fun
  | [d] => { results := [.lit (.bool true)], args := [d] }
  | _ => none }
def fnExactJoinPathRow : OpenClaim := { program := "ytkknehgaebhbeaa", sum := "7af840db45167be3589138591bbe1be4d4e7edb97f4cb0e6275fcd6e73eae243", func := "loop.example/g00285/laws.FnExactJoinPath", spec := "fnExactJoinPath", inPlace := ["internal/abi.NoEscape", "internal/bytealg.MakeNoZero"], unfollowed := true, recurses := true, apart := false }
def FnExactJoinPathSaid : Prop := fnExactJoinPathRow.holds Try.pinned (OpenSpec.ofChange fnExactJoinPathSpec)

/-- ITS FALSE NEIGHBOUR: 'it returns false'. Refute it at one input. -/
def fnExactJoinPathWrong : ChangeSpec := { name := "fnExactJoinPath", fn := fun _ => fun
  | [d] => { results := [.lit (.bool false)], args := [d] }
  | _ => none }
def FnExactJoinPathWrongFalsely : Prop := fnExactJoinPathRow.holds Try.pinned (OpenSpec.ofChange fnExactJoinPathWrong)

/-- 'laws.FnExactTabNew': WHATEVER THE INPUT: true; the input reads as it did. -/
def fnExactTabNewSpec : ChangeSpec := { name := "fnExactTabNew", fn := fun _ => fun
  | [] => { results := [.lit (.bool true)], args := [] }
  | _ => none }
def fnExactTabNewRow : OpenClaim := { program := "ytkknehgaebhbeaa", sum := "7af840db45167be3589138591bbe1be4d4e7edb97f4cb0e6275fcd6e73eae243", func := "loop.example/g00285/laws.FnExactTabNew", spec := "fnExactTabNew", apart := false }
def FnExactTabNewSaid : Prop := fnExactTabNewRow.holds Try.pinned (OpenSpec.ofChange fnExactTabNewSpec)

/-- ITS FALSE NEIGHBOUR: 'it returns false'. Refute it at one input. -/
def fnExactTabNewWrong : ChangeSpec := { name := "fnExactTabNew", fn := fun _ => fun
  | [] => { results := [.lit (.bool false)], args := [] }
  | _ => none }
def FnExactTabNewWrongFalsely : Prop := fnExactTabNewRow.holds Try.pinned (OpenSpec.ofChange fnExactTabNewWrong)

/-- 'laws.FnExactSameInode': WHATEVER THE INPUT: true; the input reads as it did. -/
def fnExactSameInodeSpec : ChangeSpec := { name := "fnExactSameInode", fn := fun _ => fun
  | [d1, d2] => { results := [.lit (.bool true)], args := [d1, d2] }
  | _ => none }
def fnExactSameInodeRow : OpenClaim := { program := "ytkknehgaebhbeaa", sum := "7af840db45167be3589138591bbe1be4d4e7edb97f4cb0e6275fcd6e73eae243", func := "loop.example/g00285/laws.FnExactSameInode", spec := "fnExactSameInode", apart := false }
def FnExactSameInodeSaid : Prop := fnExactSameInodeRow.holds Try.pinned (OpenSpec.ofChange fnExactSameInodeSpec)

/-- ITS FALSE NEIGHBOUR: 'it returns false'. Refute it at one input. -/
def fnExactSameInodeWrong : ChangeSpec := { name := "fnExactSameInode", fn := fun _ => fun
  | [d1, d2] => { results := [.lit (.bool false)], args := [d1, d2] }
  | _ => none }
def FnExactSameInodeWrongFalsely : Prop := fnExactSameInodeRow.holds Try.pinned (OpenSpec.ofChange fnExactSameInodeWrong)

/-- 'laws.FnExactUsageOf': WHATEVER THE INPUT: true; the input reads as it did. -/
def fnExactUsageOfSpec : ChangeSpec := { name := "fnExactUsageOf", fn := fun _ => fun
  | [d] => { results := [.lit (.bool true)], args := [d] }
  | _ => none }
def fnExactUsageOfRow : OpenClaim := { program := "ytkknehgaebhbeaa", sum := "7af840db45167be3589138591bbe1be4d4e7edb97f4cb0e6275fcd6e73eae243", func := "loop.example/g00285/laws.FnExactUsageOf", spec := "fnExactUsageOf", apart := false }
def FnExactUsageOfSaid : Prop := fnExactUsageOfRow.holds Try.pinned (OpenSpec.ofChange fnExactUsageOfSpec)

/-- ITS FALSE NEIGHBOUR: 'it returns false'. Refute it at one input. -/
def fnExactUsageOfWrong : ChangeSpec := { name := "fnExactUsageOf", fn := fun _ => fun
  | [d] => { results := [.lit (.bool false)], args := [d] }
  | _ => none }
def FnExactUsageOfWrongFalsely : Prop := fnExactUsageOfRow.holds Try.pinned (OpenSpec.ofChange fnExactUsageOfWrong)

/-- 'laws.FnExactInodeOk': WHATEVER THE INPUT: true; the input reads as it did. -/
def fnExactInodeOkSpec : ChangeSpec := { name := "fnExactInodeOk", fn := fun _ => fun
  | [d] => { results := [.lit (.bool true)], args := [d] }
  | _ => none }
def fnExactInodeOkRow : OpenClaim := { program := "ytkknehgaebhbeaa", sum := "7af840db45167be3589138591bbe1be4d4e7edb97f4cb0e6275fcd6e73eae243", func := "loop.example/g00285/laws.FnExactInodeOk", spec := "fnExactInodeOk", apart := false }
def FnExactInodeOkSaid : Prop := fnExactInodeOkRow.holds Try.pinned (OpenSpec.ofChange fnExactInodeOkSpec)

/-- ITS FALSE NEIGHBOUR: 'it returns false'. Refute it at one input. -/
def fnExactInodeOkWrong : ChangeSpec := { name := "fnExactInodeOk", fn := fun _ => fun
  | [d] => { results := [.lit (.bool false)], args := [d] }
  | _ => none }
def FnExactInodeOkWrongFalsely : Prop := fnExactInodeOkRow.holds Try.pinned (OpenSpec.ofChange fnExactInodeOkWrong)

/-- 'laws.FnExactLinksOf': WHATEVER THE INPUT: true; the input reads as it did. -/
def fnExactLinksOfSpec : ChangeSpec := { name := "fnExactLinksOf", fn := fun _ => fun
  | [d1, d2] => { results := [.lit (.bool true)], args := [d1, d2] }
  | _ => none }
def fnExactLinksOfRow : OpenClaim := { program := "ytkknehgaebhbeaa", sum := "7af840db45167be3589138591bbe1be4d4e7edb97f4cb0e6275fcd6e73eae243", func := "loop.example/g00285/laws.FnExactLinksOf", spec := "fnExactLinksOf", apart := false }
def FnExactLinksOfSaid : Prop := fnExactLinksOfRow.holds Try.pinned (OpenSpec.ofChange fnExactLinksOfSpec)

/-- ITS FALSE NEIGHBOUR: 'it returns false'. Refute it at one input. -/
def fnExactLinksOfWrong : ChangeSpec := { name := "fnExactLinksOf", fn := fun _ => fun
  | [d1, d2] => { results := [.lit (.bool false)], args := [d1, d2] }
  | _ => none }
def FnExactLinksOfWrongFalsely : Prop := fnExactLinksOfRow.holds Try.pinned (OpenSpec.ofChange fnExactLinksOfWrong)

/-- 'laws.FnExactSameTab': WHATEVER THE INPUT: true; the input reads as it did. -/
def fnExactSameTabSpec : ChangeSpec := { name := "fnExactSameTab", fn := fun _ => fun
  | [d1, d2] => { results := [.lit (.bool true)], args := [d1, d2] }
  | _ => none }
def fnExactSameTabRow : OpenClaim := { program := "ytkknehgaebhbeaa", sum := "7af840db45167be3589138591bbe1be4d4e7edb97f4cb0e6275fcd6e73eae243", func := "loop.example/g00285/laws.FnExactSameTab", spec := "fnExactSameTab", unfollowed := true, recurses := true, apart := false }
def FnExactSameTabSaid : Prop := fnExactSameTabRow.holds Try.pinned (OpenSpec.ofChange fnExactSameTabSpec)

/-- ITS FALSE NEIGHBOUR: 'it returns false'. Refute it at one input. -/
def fnExactSameTabWrong : ChangeSpec := { name := "fnExactSameTab", fn := fun _ => fun
  | [d1, d2] => { results := [.lit (.bool false)], args := [d1, d2] }
  | _ => none }
def FnExactSameTabWrongFalsely : Prop := fnExactSameTabRow.holds Try.pinned (OpenSpec.ofChange fnExactSameTabWrong)

/-- 'laws.FnExactTabOk': WHATEVER THE INPUT: true; the input reads as it did. -/
def fnExactTabOkSpec : ChangeSpec := { name := "fnExactTabOk", fn := fun _ => fun
  | [d] => { results := [.lit (.bool true)], args := [d] }
  | _ => none }
def fnExactTabOkRow : OpenClaim := { program := "ytkknehgaebhbeaa", sum := "7af840db45167be3589138591bbe1be4d4e7edb97f4cb0e6275fcd6e73eae243", func := "loop.example/g00285/laws.FnExactTabOk", spec := "fnExactTabOk", unfollowed := true, recurses := true, apart := false }
def FnExactTabOkSaid : Prop := fnExactTabOkRow.holds Try.pinned (OpenSpec.ofChange fnExactTabOkSpec)

/-- ITS FALSE NEIGHBOUR: 'it returns false'. Refute it at one input. -/
def fnExactTabOkWrong : ChangeSpec := { name := "fnExactTabOk", fn := fun _ => fun
  | [d] => { results := [.lit (.bool false)], args := [d] }
  | _ => none }
def FnExactTabOkWrongFalsely : Prop := fnExactTabOkRow.holds Try.pinned (OpenSpec.ofChange fnExactTabOkWrong)

/-- 'laws.FnExactPutInode': WHATEVER THE INPUT: true; the input reads as it did. -/
def fnExactPutInodeSpec : ChangeSpec := { name := "fnExactPutInode", fn := fun _ => fun
  | [d] => { results := [.lit (.bool true)], args := [d] }
  | _ => none }
def fnExactPutInodeRow : OpenClaim := { program := "ytkknehgaebhbeaa", sum := "7af840db45167be3589138591bbe1be4d4e7edb97f4cb0e6275fcd6e73eae243", func := "loop.example/g00285/laws.FnExactPutInode", spec := "fnExactPutInode", apart := false }
def FnExactPutInodeSaid : Prop := fnExactPutInodeRow.holds Try.pinned (OpenSpec.ofChange fnExactPutInodeSpec)

/-- ITS FALSE NEIGHBOUR: 'it returns false'. Refute it at one input. -/
def fnExactPutInodeWrong : ChangeSpec := { name := "fnExactPutInode", fn := fun _ => fun
  | [d] => { results := [.lit (.bool false)], args := [d] }
  | _ => none }
def FnExactPutInodeWrongFalsely : Prop := fnExactPutInodeRow.holds Try.pinned (OpenSpec.ofChange fnExactPutInodeWrong)

/-- 'laws.FnExactInodeAt': WHATEVER THE INPUT: true; the input reads as it did. -/
def fnExactInodeAtSpec : ChangeSpec := { name := "fnExactInodeAt", fn := fun _ => fun
  | [d1, d2] => { results := [.lit (.bool true)], args := [d1, d2] }
  | _ => none }
def fnExactInodeAtRow : OpenClaim := { program := "ytkknehgaebhbeaa", sum := "7af840db45167be3589138591bbe1be4d4e7edb97f4cb0e6275fcd6e73eae243", func := "loop.example/g00285/laws.FnExactInodeAt", spec := "fnExactInodeAt", unfollowed := true, recurses := true, apart := false }
def FnExactInodeAtSaid : Prop := fnExactInodeAtRow.holds Try.pinned (OpenSpec.ofChange fnExactInodeAtSpec)

/-- ITS FALSE NEIGHBOUR: 'it returns false'. Refute it at one input. -/
def fnExactInodeAtWrong : ChangeSpec := { name := "fnExactInodeAt", fn := fun _ => fun
  | [d1, d2] => { results := [.lit (.bool false)], args := [d1, d2] }
  | _ => none }
def FnExactInodeAtWrongFalsely : Prop := fnExactInodeAtRow.holds Try.pinned (OpenSpec.ofChange fnExactInodeAtWrong)

/-- 'laws.FnExactDropInode': WHATEVER THE INPUT: true; the input reads as it did. -/
def fnExactDropInodeSpec : ChangeSpec := { name := "fnExactDropInode", fn := fun _ => fun
  | [d1, d2] => { results := [.lit (.bool true)], args := [d1, d2] }
  | _ => none }
def fnExactDropInodeRow : OpenClaim := { program := "ytkknehgaebhbeaa", sum := "7af840db45167be3589138591bbe1be4d4e7edb97f4cb0e6275fcd6e73eae243", func := "loop.example/g00285/laws.FnExactDropInode", spec := "fnExactDropInode", unfollowed := true, recurses := true, apart := false }
def FnExactDropInodeSaid : Prop := fnExactDropInodeRow.holds Try.pinned (OpenSpec.ofChange fnExactDropInodeSpec)

/-- ITS FALSE NEIGHBOUR: 'it returns false'. Refute it at one input. -/
def fnExactDropInodeWrong : ChangeSpec := { name := "fnExactDropInode", fn := fun _ => fun
  | [d1, d2] => { results := [.lit (.bool false)], args := [d1, d2] }
  | _ => none }
def FnExactDropInodeWrongFalsely : Prop := fnExactDropInodeRow.holds Try.pinned (OpenSpec.ofChange fnExactDropInodeWrong)

/-- 'laws.FnExactSetInode': WHATEVER THE INPUT: true; the input reads as it did. -/
def fnExactSetInodeSpec : ChangeSpec := { name := "fnExactSetInode", fn := fun _ => fun
  | [d1, d2] => { results := [.lit (.bool true)], args := [d1, d2] }
  | _ => none }
def fnExactSetInodeRow : OpenClaim := { program := "ytkknehgaebhbeaa", sum := "7af840db45167be3589138591bbe1be4d4e7edb97f4cb0e6275fcd6e73eae243", func := "loop.example/g00285/laws.FnExactSetInode", spec := "fnExactSetInode", inPlace := ["slices.overlaps[loop.example/g00285/impl.Inode]"], unfollowed := true, recurses := true, apart := false }
def FnExactSetInodeSaid : Prop := fnExactSetInodeRow.holds Try.pinned (OpenSpec.ofChange fnExactSetInodeSpec)

/-- ITS FALSE NEIGHBOUR: 'it returns false'. Refute it at one input. -/
def fnExactSetInodeWrong : ChangeSpec := { name := "fnExactSetInode", fn := fun _ => fun
  | [d1, d2] => { results := [.lit (.bool false)], args := [d1, d2] }
  | _ => none }
def FnExactSetInodeWrongFalsely : Prop := fnExactSetInodeRow.holds Try.pinned (OpenSpec.ofChange fnExactSetInodeWrong)

/-- 'laws.FnExactReached': WHATEVER THE INPUT: true; the input reads as it did. -/
def fnExactReachedSpec : ChangeSpec := { name := "fnExactReached", fn := fun _ => fun
  | [d] => { results := [.lit (.bool true)], args := [d] }
  | _ => none }
def fnExactReachedRow : OpenClaim := { program := "ytkknehgaebhbeaa", sum := "7af840db45167be3589138591bbe1be4d4e7edb97f4cb0e6275fcd6e73eae243", func := "loop.example/g00285/laws.FnExactReached", spec := "fnExactReached", unfollowed := true, recurses := true, apart := false }
def FnExactReachedSaid : Prop := fnExactReachedRow.holds Try.pinned (OpenSpec.ofChange fnExactReachedSpec)

/-- ITS FALSE NEIGHBOUR: 'it returns false'. Refute it at one input. -/
def fnExactReachedWrong : ChangeSpec := { name := "fnExactReached", fn := fun _ => fun
  | [d] => { results := [.lit (.bool false)], args := [d] }
  | _ => none }
def FnExactReachedWrongFalsely : Prop := fnExactReachedRow.holds Try.pinned (OpenSpec.ofChange fnExactReachedWrong)

/-- 'laws.FnExactTreeOk': WHATEVER THE INPUT: true; the input reads as it did. -/
def fnExactTreeOkSpec : ChangeSpec := { name := "fnExactTreeOk", fn := fun _ => fun
  | [d] => { results := [.lit (.bool true)], args := [d] }
  | _ => none }
def fnExactTreeOkRow : OpenClaim := { program := "ytkknehgaebhbeaa", sum := "7af840db45167be3589138591bbe1be4d4e7edb97f4cb0e6275fcd6e73eae243", func := "loop.example/g00285/laws.FnExactTreeOk", spec := "fnExactTreeOk", unfollowed := true, recurses := true, apart := false }
def FnExactTreeOkSaid : Prop := fnExactTreeOkRow.holds Try.pinned (OpenSpec.ofChange fnExactTreeOkSpec)

/-- ITS FALSE NEIGHBOUR: 'it returns false'. Refute it at one input. -/
def fnExactTreeOkWrong : ChangeSpec := { name := "fnExactTreeOk", fn := fun _ => fun
  | [d] => { results := [.lit (.bool false)], args := [d] }
  | _ => none }
def FnExactTreeOkWrongFalsely : Prop := fnExactTreeOkRow.holds Try.pinned (OpenSpec.ofChange fnExactTreeOkWrong)

/-- 'laws.FnTabs': WHATEVER THE INPUT: true; the input reads as it did. -/
def fnTabsSpec : ChangeSpec := { name := "fnTabs", fn := fun _ => fun
  | [d] => { results := [.lit (.bool true)], args := [d] }
  | _ => none }
def fnTabsRow : OpenClaim := { program := "ytkknehgaebhbeaa", sum := "7af840db45167be3589138591bbe1be4d4e7edb97f4cb0e6275fcd6e73eae243", func := "loop.example/g00285/laws.FnTabs", spec := "fnTabs", inPlace := ["slices.overlaps[loop.example/g00285/impl.Inode]"], unfollowed := true, recurses := true, apart := false }
def FnTabsSaid : Prop := fnTabsRow.holds Try.pinned (OpenSpec.ofChange fnTabsSpec)

/-- ITS FALSE NEIGHBOUR: 'it returns false'. Refute it at one input. -/
def fnTabsWrong : ChangeSpec := { name := "fnTabs", fn := fun _ => fun
  | [d] => { results := [.lit (.bool false)], args := [d] }
  | _ => none }
def FnTabsWrongFalsely : Prop := fnTabsRow.holds Try.pinned (OpenSpec.ofChange fnTabsWrong)

/- THE SECOND FORM. 'bulk': how many values and letters a reading holds, each counted each time it is reached (what is shared counts as often as it is met; a slice's spare places count too). A statement '..UptoSaid' is the law's where the arguments, and the package variables that the reading takes, are together of bulk at most 1048576: NARROWER than '..Said'. Prove '..Said' where nothing that the law and all that it calls make is longer than what came in: it says more and counts as full. Else prove '..UptoSaid'. A law counts once. -/
mutual
def uptoBulk {H : Type} : DataW H → Nat
  | .lit (.string bytes) => bytes.length + 1
  | .lit _ => 1
  | .nil => 1
  | .ptr d => uptoBulk d + 1
  | .slice elems spare => uptoBulkAll elems + uptoBulkAll spare + 1
  | .agg parts => uptoBulkAll parts + 1
  | .iface _ d => uptoBulk d + 1
  | .map entries => uptoBulkEntries entries + 1
  | .held _ => 1
def uptoBulkAll {H : Type} : List (DataW H) → Nat
  | [] => 0
  | d :: r => uptoBulk d + uptoBulkAll r
def uptoBulkEntries {H : Type} : List (Lit × DataW H) → Nat
  | [] => 0
  | x :: r => uptoBulkEntry x + uptoBulkEntries r
def uptoBulkEntry {H : Type} : Lit × DataW H → Nat
  | (.string bytes, d) => bytes.length + uptoBulk d + 1
  | (_, d) => uptoBulk d + 1
 end
def uptoSmall : (H : Type) → List (DataW H) → Bool := fun _ ds => decide (uptoBulkAll ds ≤ 1048576)
def OpenSpec.upto (s : _root_.Go.ChangeSpec) : _root_.Go.OpenSpec := { _root_.Go.OpenSpec.ofChange s with cond := some uptoSmall }

/-- 'laws.FnExactJoinPath', WHERE WHAT IT READS IS OF BULK AT MOST 1048576: true; the input reads as it did. -/
def fnExactJoinPathUptoRow : OpenClaim := { program := "ytkknehgaebhbeaa", sum := "7af840db45167be3589138591bbe1be4d4e7edb97f4cb0e6275fcd6e73eae243", func := "loop.example/g00285/laws.FnExactJoinPath", spec := "fnExactJoinPath", inPlace := ["internal/abi.NoEscape", "internal/bytealg.MakeNoZero"], unfollowed := true, recurses := true, apart := false, narrowed := true }
def FnExactJoinPathUptoSaid : Prop := fnExactJoinPathUptoRow.holds Try.pinned (OpenSpec.upto fnExactJoinPathSpec)

/-- 'laws.FnExactTabNew', WHERE WHAT IT READS IS OF BULK AT MOST 1048576: true; the input reads as it did. -/
def fnExactTabNewUptoRow : OpenClaim := { program := "ytkknehgaebhbeaa", sum := "7af840db45167be3589138591bbe1be4d4e7edb97f4cb0e6275fcd6e73eae243", func := "loop.example/g00285/laws.FnExactTabNew", spec := "fnExactTabNew", apart := false, narrowed := true }
def FnExactTabNewUptoSaid : Prop := fnExactTabNewUptoRow.holds Try.pinned (OpenSpec.upto fnExactTabNewSpec)

/-- 'laws.FnExactSameInode', WHERE WHAT IT READS IS OF BULK AT MOST 1048576: true; the input reads as it did. -/
def fnExactSameInodeUptoRow : OpenClaim := { program := "ytkknehgaebhbeaa", sum := "7af840db45167be3589138591bbe1be4d4e7edb97f4cb0e6275fcd6e73eae243", func := "loop.example/g00285/laws.FnExactSameInode", spec := "fnExactSameInode", apart := false, narrowed := true }
def FnExactSameInodeUptoSaid : Prop := fnExactSameInodeUptoRow.holds Try.pinned (OpenSpec.upto fnExactSameInodeSpec)

/-- 'laws.FnExactUsageOf', WHERE WHAT IT READS IS OF BULK AT MOST 1048576: true; the input reads as it did. -/
def fnExactUsageOfUptoRow : OpenClaim := { program := "ytkknehgaebhbeaa", sum := "7af840db45167be3589138591bbe1be4d4e7edb97f4cb0e6275fcd6e73eae243", func := "loop.example/g00285/laws.FnExactUsageOf", spec := "fnExactUsageOf", apart := false, narrowed := true }
def FnExactUsageOfUptoSaid : Prop := fnExactUsageOfUptoRow.holds Try.pinned (OpenSpec.upto fnExactUsageOfSpec)

/-- 'laws.FnExactInodeOk', WHERE WHAT IT READS IS OF BULK AT MOST 1048576: true; the input reads as it did. -/
def fnExactInodeOkUptoRow : OpenClaim := { program := "ytkknehgaebhbeaa", sum := "7af840db45167be3589138591bbe1be4d4e7edb97f4cb0e6275fcd6e73eae243", func := "loop.example/g00285/laws.FnExactInodeOk", spec := "fnExactInodeOk", apart := false, narrowed := true }
def FnExactInodeOkUptoSaid : Prop := fnExactInodeOkUptoRow.holds Try.pinned (OpenSpec.upto fnExactInodeOkSpec)

/-- 'laws.FnExactLinksOf', WHERE WHAT IT READS IS OF BULK AT MOST 1048576: true; the input reads as it did. -/
def fnExactLinksOfUptoRow : OpenClaim := { program := "ytkknehgaebhbeaa", sum := "7af840db45167be3589138591bbe1be4d4e7edb97f4cb0e6275fcd6e73eae243", func := "loop.example/g00285/laws.FnExactLinksOf", spec := "fnExactLinksOf", apart := false, narrowed := true }
def FnExactLinksOfUptoSaid : Prop := fnExactLinksOfUptoRow.holds Try.pinned (OpenSpec.upto fnExactLinksOfSpec)

/-- 'laws.FnExactSameTab', WHERE WHAT IT READS IS OF BULK AT MOST 1048576: true; the input reads as it did. -/
def fnExactSameTabUptoRow : OpenClaim := { program := "ytkknehgaebhbeaa", sum := "7af840db45167be3589138591bbe1be4d4e7edb97f4cb0e6275fcd6e73eae243", func := "loop.example/g00285/laws.FnExactSameTab", spec := "fnExactSameTab", unfollowed := true, recurses := true, apart := false, narrowed := true }
def FnExactSameTabUptoSaid : Prop := fnExactSameTabUptoRow.holds Try.pinned (OpenSpec.upto fnExactSameTabSpec)

/-- 'laws.FnExactTabOk', WHERE WHAT IT READS IS OF BULK AT MOST 1048576: true; the input reads as it did. -/
def fnExactTabOkUptoRow : OpenClaim := { program := "ytkknehgaebhbeaa", sum := "7af840db45167be3589138591bbe1be4d4e7edb97f4cb0e6275fcd6e73eae243", func := "loop.example/g00285/laws.FnExactTabOk", spec := "fnExactTabOk", unfollowed := true, recurses := true, apart := false, narrowed := true }
def FnExactTabOkUptoSaid : Prop := fnExactTabOkUptoRow.holds Try.pinned (OpenSpec.upto fnExactTabOkSpec)

/-- 'laws.FnExactPutInode', WHERE WHAT IT READS IS OF BULK AT MOST 1048576: true; the input reads as it did. -/
def fnExactPutInodeUptoRow : OpenClaim := { program := "ytkknehgaebhbeaa", sum := "7af840db45167be3589138591bbe1be4d4e7edb97f4cb0e6275fcd6e73eae243", func := "loop.example/g00285/laws.FnExactPutInode", spec := "fnExactPutInode", apart := false, narrowed := true }
def FnExactPutInodeUptoSaid : Prop := fnExactPutInodeUptoRow.holds Try.pinned (OpenSpec.upto fnExactPutInodeSpec)

/-- 'laws.FnExactInodeAt', WHERE WHAT IT READS IS OF BULK AT MOST 1048576: true; the input reads as it did. -/
def fnExactInodeAtUptoRow : OpenClaim := { program := "ytkknehgaebhbeaa", sum := "7af840db45167be3589138591bbe1be4d4e7edb97f4cb0e6275fcd6e73eae243", func := "loop.example/g00285/laws.FnExactInodeAt", spec := "fnExactInodeAt", unfollowed := true, recurses := true, apart := false, narrowed := true }
def FnExactInodeAtUptoSaid : Prop := fnExactInodeAtUptoRow.holds Try.pinned (OpenSpec.upto fnExactInodeAtSpec)

/-- 'laws.FnExactDropInode', WHERE WHAT IT READS IS OF BULK AT MOST 1048576: true; the input reads as it did. -/
def fnExactDropInodeUptoRow : OpenClaim := { program := "ytkknehgaebhbeaa", sum := "7af840db45167be3589138591bbe1be4d4e7edb97f4cb0e6275fcd6e73eae243", func := "loop.example/g00285/laws.FnExactDropInode", spec := "fnExactDropInode", unfollowed := true, recurses := true, apart := false, narrowed := true }
def FnExactDropInodeUptoSaid : Prop := fnExactDropInodeUptoRow.holds Try.pinned (OpenSpec.upto fnExactDropInodeSpec)

/-- 'laws.FnExactSetInode', WHERE WHAT IT READS IS OF BULK AT MOST 1048576: true; the input reads as it did. -/
def fnExactSetInodeUptoRow : OpenClaim := { program := "ytkknehgaebhbeaa", sum := "7af840db45167be3589138591bbe1be4d4e7edb97f4cb0e6275fcd6e73eae243", func := "loop.example/g00285/laws.FnExactSetInode", spec := "fnExactSetInode", inPlace := ["slices.overlaps[loop.example/g00285/impl.Inode]"], unfollowed := true, recurses := true, apart := false, narrowed := true }
def FnExactSetInodeUptoSaid : Prop := fnExactSetInodeUptoRow.holds Try.pinned (OpenSpec.upto fnExactSetInodeSpec)

/-- 'laws.FnExactReached', WHERE WHAT IT READS IS OF BULK AT MOST 1048576: true; the input reads as it did. -/
def fnExactReachedUptoRow : OpenClaim := { program := "ytkknehgaebhbeaa", sum := "7af840db45167be3589138591bbe1be4d4e7edb97f4cb0e6275fcd6e73eae243", func := "loop.example/g00285/laws.FnExactReached", spec := "fnExactReached", unfollowed := true, recurses := true, apart := false, narrowed := true }
def FnExactReachedUptoSaid : Prop := fnExactReachedUptoRow.holds Try.pinned (OpenSpec.upto fnExactReachedSpec)

/-- 'laws.FnExactTreeOk', WHERE WHAT IT READS IS OF BULK AT MOST 1048576: true; the input reads as it did. -/
def fnExactTreeOkUptoRow : OpenClaim := { program := "ytkknehgaebhbeaa", sum := "7af840db45167be3589138591bbe1be4d4e7edb97f4cb0e6275fcd6e73eae243", func := "loop.example/g00285/laws.FnExactTreeOk", spec := "fnExactTreeOk", unfollowed := true, recurses := true, apart := false, narrowed := true }
def FnExactTreeOkUptoSaid : Prop := fnExactTreeOkUptoRow.holds Try.pinned (OpenSpec.upto fnExactTreeOkSpec)

/-- 'laws.FnTabs', WHERE WHAT IT READS IS OF BULK AT MOST 1048576: true; the input reads as it did. -/
def fnTabsUptoRow : OpenClaim := { program := "ytkknehgaebhbeaa", sum := "7af840db45167be3589138591bbe1be4d4e7edb97f4cb0e6275fcd6e73eae243", func := "loop.example/g00285/laws.FnTabs", spec := "fnTabs", inPlace := ["slices.overlaps[loop.example/g00285/impl.Inode]"], unfollowed := true, recurses := true, apart := false, narrowed := true }
def FnTabsUptoSaid : Prop := fnTabsUptoRow.holds Try.pinned (OpenSpec.upto fnTabsSpec)

end Rows
end Go.Proofs.Ytkknehgaebhbeaa
