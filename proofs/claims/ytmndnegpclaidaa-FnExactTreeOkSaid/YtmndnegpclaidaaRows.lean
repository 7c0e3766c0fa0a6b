/-
  No cell of these rows narrows 'for every input' (looked for: loops, veiled, ifaces, maps, wideKeys, modest, calm, conditions, laid).
  DERIVED. THE GIVEN ROWS OF THIS SEAT. 4 by the template 'for every input the law returns true; each argument reads behind the call as it read before'; 0 by the template 'total and deterministic' (their statements: YtmndnegpclaidaaTotals.lean).
  GIVEN WITH THE SEED: the statements are not yours to turn. If you find one false, say at which input.
  Laid BY PROGRAM, IN A SANDBOX (cutbox-rows.mjs): the forced cells as the released guide's own fill.sh prints them over the translation 4d97b6852257bca9… (all of the seat's roots in one cut). By AI agents, Wed Nov 11 2026. No macro, syntax, notation, axiom, sorry.
-/
import Derived.Test.YtmndnegpclaidaaChecked
import GoSem.Claim
import GoSem.ClaimJoined
import GoSem.ClaimMapViews
import Derived.JoinedTies
import Derived.KernelRfl
namespace Go.Proofs.Ytmndnegpclaidaa
/- THE CELL 'sum', in the pinned program and in every row, IS THE sha256 OF THE DUMP (.gsa) THAT YtmndnegpclaidaaProg.lean LOADS. Nothing in Lean hashes anything: it is a label: what it is worth is what the hold of that sum in a sandbox is worth. -/
noncomputable def Try.pinned : Pinned := { name := "ytmndnegpclaidaa", sum := "4d97b6852257bca9ce556b4152ccd4ead948e5c3d4114c29fc9a85d5e2fdbfe3", checked := Try.checked }
namespace Rows
def none {H : Type} : Left H := { results := [], args := [] }

/-- 'laws.FnExactSetInode': WHATEVER THE INPUT: true; the input reads as it did. -/
def fnExactSetInodeSpec : ChangeSpec := { name := "fnExactSetInode", fn := fun _ => fun
  | [d1, d2] => { results := [.lit (.bool true)], args := [d1, d2] }
  | _ => none }
def fnExactSetInodeRow : OpenClaim := { program := "ytmndnegpclaidaa", sum := "4d97b6852257bca9ce556b4152ccd4ead948e5c3d4114c29fc9a85d5e2fdbfe3", func := "loop.example/g00285/laws.FnExactSetInode", spec := "fnExactSetInode", inPlace := ["slices.overlaps[loop.example/g00285/impl.Inode]"], unfollowed := true, recurses := true, apart := false }
def FnExactSetInodeSaid : Prop := fnExactSetInodeRow.holds Try.pinned (OpenSpec.ofChange fnExactSetInodeSpec)

/-- ITS FALSE NEIGHBOUR: 'it returns false'. Refute it at one input. -/
def fnExactSetInodeWrong : ChangeSpec := { name := "fnExactSetInode", fn := fun _ => fun
  | [d1, d2] => { results := [.lit (.bool false)], args := [d1, d2] }
  | _ => none }
def FnExactSetInodeWrongFalsely : Prop := fnExactSetInodeRow.holds Try.pinned (OpenSpec.ofChange fnExactSetInodeWrong)

/-- 'laws.FnExactReached': WHATEVER THE INPUT: true; the input reads as it did. -/
def fnExactReachedSpec : ChangeSpec := { name := "fnExactReached", fn := fun _ => fun
  | [d] => { results := [.lit (.bool true)], args := [d] }
  | _ => none }
def fnExactReachedRow : OpenClaim := { program := "ytmndnegpclaidaa", sum := "4d97b6852257bca9ce556b4152ccd4ead948e5c3d4114c29fc9a85d5e2fdbfe3", func := "loop.example/g00285/laws.FnExactReached", spec := "fnExactReached", unfollowed := true, recurses := true, apart := false }
def FnExactReachedSaid : Prop := fnExactReachedRow.holds Try.pinned (OpenSpec.ofChange fnExactReachedSpec)

/-- ITS FALSE NEIGHBOUR: 'it returns false'. Refute it at one input. -/
def fnExactReachedWrong : ChangeSpec := { name := "fnExactReached", fn := fun _ => fun
  | [d] => { results := [.lit (.bool false)], args := [d] }
  | _ => none }
def FnExactReachedWrongFalsely : Prop := fnExactReachedRow.holds Try.pinned (OpenSpec.ofChange fnExactReachedWrong)

/-- 'laws.FnExactTreeOk': WHATEVER THE INPUT: true; the input reads as it did. -/
def fnExactTreeOkSpec : ChangeSpec := { name := "fnExactTreeOk", fn := fun _ => fun
  | [d] => { results := [.lit (.bool true)], args := [d] }
  | _ => none }
def fnExactTreeOkRow : OpenClaim := { program := "ytmndnegpclaidaa", sum := "4d97b6852257bca9ce556b4152ccd4ead948e5c3d4114c29fc9a85d5e2fdbfe3", func := "loop.example/g00285/laws.FnExactTreeOk", spec := "fnExactTreeOk", unfollowed := true, recurses := true, apart := false }
def FnExactTreeOkSaid : Prop := fnExactTreeOkRow.holds Try.pinned (OpenSpec.ofChange fnExactTreeOkSpec)

/-- ITS FALSE NEIGHBOUR: 'it returns false'. Refute it at one input. -/
def fnExactTreeOkWrong : ChangeSpec := { name := "fnExactTreeOk", fn := fun _ => fun
  | [d] => { results := [.lit (.bool false)], args := [d] }
  | _ => none }
def FnExactTreeOkWrongFalsely : Prop := fnExactTreeOkRow.holds Try.pinned (OpenSpec.ofChange fnExactTreeOkWrong)

/-- 'laws.FnTabs': WHATEVER THE INPUT: true; the input reads as it did. -/
def fnTabsSpec : ChangeSpec := { name := "fnTabs", fn := fun _ => fun
  | [d] => { results := [.lit (.bool true)], args := [d] }
  | _ => none }
def fnTabsRow : OpenClaim := { program := "ytmndnegpclaidaa", sum := "4d97b6852257bca9ce556b4152ccd4ead948e5c3d4114c29fc9a85d5e2fdbfe3", func := "loop.example/g00285/laws.FnTabs", spec := "fnTabs", inPlace := ["slices.overlaps[loop.example/g00285/impl.Inode]"], unfollowed := true, recurses := true, apart := false }
def FnTabsSaid : Prop := fnTabsRow.holds Try.pinned (OpenSpec.ofChange fnTabsSpec)

/-- ITS FALSE NEIGHBOUR: 'it returns false'. Refute it at one input. -/
def fnTabsWrong : ChangeSpec := { name := "fnTabs", fn := fun _ => fun
  | [d] => { results := [.lit (.bool false)], args := [d] }
  | _ => none }
def FnTabsWrongFalsely : Prop := fnTabsRow.holds Try.pinned (OpenSpec.ofChange fnTabsWrong)

/- THE SECOND FORM. 'bulk': how many values and letters a reading holds, each counted each time it is reached (what is shared counts as often as it is met; a slice's spare places count too). A statement '..UptoSaid' is the law's where the arguments, and the package variables that the reading takes, are together of bulk at most 1048576: NARROWER than '..Said'. Prove '..Said' where nothing that the law and all that it calls make is longer than what came in: it says more and counts as full. Else prove '..UptoSaid'. A law counts once. -/
mutual
def uptoBulk {H : Type} : DataW H → Nat
  | .lit (.string bytes) => bytes.length + 1
  | .lit _ => 1
  | .nil => 1
  | .ptr d => uptoBulk d + 1
  | .slice elems spare => uptoBulkAll elems + uptoBulkAll spare + 1
  | .agg parts => uptoBulkAll parts + 1
  | .iface _ d => uptoBulk d + 1
  | .map entries => uptoBulkEntries entries + 1
  | .held _ => 1
def uptoBulkAll {H : Type} : List (DataW H) → Nat
  | [] => 0
  | d :: r => uptoBulk d + uptoBulkAll r
def uptoBulkEntries {H : Type} : List (Lit × DataW H) → Nat
  | [] => 0
  | x :: r => uptoBulkEntry x + uptoBulkEntries r
def uptoBulkEntry {H : Type} : Lit × DataW H → Nat
  | (.string bytes, d) => bytes.length + uptoBulk d + 1
  | (_, d) => uptoBulk d + 1
 end
def uptoSmall : (H : Type) → List (DataW H) → Bool := fun _ ds => decide (uptoBulkAll ds ≤ 1048576)
def OpenSpec.upto (s : _root_.Go.ChangeSpec) : _root_.Go.OpenSpec := { _root_.Go.OpenSpec.ofChange s with cond := some uptoSmall }

/-- 'laws.FnExactSetInode', WHERE WHAT IT READS IS OF BULK AT MOST 1048576: true; the input reads as it did. -/
def fnExactSetInodeUptoRow : OpenClaim := { program := "ytmndnegpclaidaa", sum := "4d97b6852257bca9ce556b4152ccd4ead948e5c3d4114c29fc9a85d5e2fdbfe3", func := "loop.example/g00285/laws.FnExactSetInode", spec := "fnExactSetInode", inPlace := ["slices.overlaps[loop.example/g00285/impl.Inode]"], unfollowed := true, recurses := true, apart := false, narrowed := true }
def FnExactSetInodeUptoSaid : Prop := fnExactSetInodeUptoRow.holds Try.pinned (OpenSpec.upto fnExactSetInodeSpec)

/-- 'laws.FnExactReached', WHERE WHAT IT READS IS OF BULK AT MOST 1048576: true; the input reads as it did. -/
def fnExactReachedUptoRow : OpenClaim := { program := "ytmndnegpclaidaa", sum := "4d97b6852257bca9ce556b4152ccd4ead948e5c3d4114c29fc9a85d5e2fdbfe3", func := "loop.example/g00285/laws.FnExactReached", spec := "fnExactReached", unfollowed := true, recurses := true, apart := false, narrowed := true }
def FnExactReachedUptoSaid : Prop := fnExactReachedUptoRow.holds Try.pinned (OpenSpec.upto fnExactReachedSpec)

/-- 'laws.FnExactTreeOk', WHERE WHAT IT READS IS OF BULK AT MOST 1048576: true; the input reads as it did. -/
def fnExactTreeOkUptoRow : OpenClaim := { program := "ytmndnegpclaidaa", sum := "4d97b6852257bca9ce556b4152ccd4ead948e5c3d4114c29fc9a85d5e2fdbfe3", func := "loop.example/g00285/laws.FnExactTreeOk", spec := "fnExactTreeOk", unfollowed := true, recurses := true, apart := false, narrowed := true }
def FnExactTreeOkUptoSaid : Prop := fnExactTreeOkUptoRow.holds Try.pinned (OpenSpec.upto fnExactTreeOkSpec)

/-- 'laws.FnTabs', WHERE WHAT IT READS IS OF BULK AT MOST 1048576: true; the input reads as it did. -/
def fnTabsUptoRow : OpenClaim := { program := "ytmndnegpclaidaa", sum := "4d97b6852257bca9ce556b4152ccd4ead948e5c3d4114c29fc9a85d5e2fdbfe3", func := "loop.example/g00285/laws.FnTabs", spec := "fnTabs", inPlace := ["slices.overlaps[loop.example/g00285/impl.Inode]"], unfollowed := true, recurses := true, apart := false, narrowed := true }
def FnTabsUptoSaid : Prop := fnTabsUptoRow.holds Try.pinned (OpenSpec.upto fnTabsSpec)

end Rows
end Go.Proofs.Ytmndnegpclaidaa
