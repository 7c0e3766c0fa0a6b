/-
  DERIVED. GIVEN WITH THE SEED: THE CARDS: each row of YtkfcmpalbhmmaaaDoorRows.lean that lists a variable, with what it lists TIED to the program's text (the seventh form; the later family's looks); each row that meets fmt, with fmt's text TOLD by the authors' own Lean function (tested against real Go, not proved from fmt's source: count such statements apart). THE CARD IS WHAT COUNTS. Prove the row's statement (the work); the ties are given (YtkfcmpalbhmmaaaDoorTie.lean); close each card by the builder's one call (the guide's Derived/Test/ToyasCard.lean, 'card_holds'). Laid BY PROGRAM, IN A SANDBOX (cutbox-door.mjs). By AI agents, Wed Nov 11 2026. No macro, syntax, notation, axiom, sorry.
-/
import Derived.Test.YtkfcmpalbhmmaaaDoorRows
import GoSem.ClaimSeven
namespace Go.Proofs.YtkfcmpalbhmmaaaDoor
namespace Rows

/-- THE TIED CARD OF 'laws.FnExactBelow'. -/
def fnExactBelowCard : Claim7 := { stood := { row := fnExactBelowRow, standIns := [], harness := (true, "54d2b5525ee80580d6a50c7950ac3b011a3c649472ca51a42b9b2040f26a4aa4"), looks := false }, kinds := [], alts := [], laidByText := true, laidKinds := [.data, .pinned], laidTests := true, laidLooks := .later }
def FnExactBelowCardSaid : Prop := Claim7.holds Tryd.pinned (.plain (OpenSpec.ofChange fnExactBelowSpec)) fnExactBelowCard

/-- THE TIED CARD OF 'laws.FnExactSplitPath'. -/
def fnExactSplitPathCard : Claim7 := { stood := { row := fnExactSplitPathRow, standIns := [], harness := (true, "54d2b5525ee80580d6a50c7950ac3b011a3c649472ca51a42b9b2040f26a4aa4"), looks := false }, kinds := [], alts := [], laidByText := true, laidKinds := [.data, .pinned], laidTests := true, laidLooks := .later }
def FnExactSplitPathCardSaid : Prop := Claim7.holds Tryd.pinned (.plain (OpenSpec.ofChange fnExactSplitPathSpec)) fnExactSplitPathCard

/-- THE TIED CARD OF 'laws.FnBelow'. -/
def fnBelowCard : Claim7 := { stood := { row := fnBelowRow, standIns := [], harness := (true, "54d2b5525ee80580d6a50c7950ac3b011a3c649472ca51a42b9b2040f26a4aa4"), looks := false }, kinds := [], alts := [], laidByText := true, laidKinds := [.data, .pinned], laidTests := true, laidLooks := .later }
def FnBelowCardSaid : Prop := Claim7.holds Tryd.pinned (.plain (OpenSpec.ofChange fnBelowSpec)) fnBelowCard

/-- THE TIED CARD OF 'laws.FnExactParentOf'. -/
def fnExactParentOfCard : Claim7 := { stood := { row := fnExactParentOfRow, standIns := [], harness := (true, "54d2b5525ee80580d6a50c7950ac3b011a3c649472ca51a42b9b2040f26a4aa4"), looks := false }, kinds := [], alts := [], laidByText := true, laidKinds := [.data, .pinned], laidTests := true, laidLooks := .later }
def FnExactParentOfCardSaid : Prop := Claim7.holds Tryd.pinned (.plain (OpenSpec.ofChange fnExactParentOfSpec)) fnExactParentOfCard

/-- THE TIED CARD OF 'laws.FnPaths'. -/
def fnPathsCard : Claim7 := { stood := { row := fnPathsRow, standIns := [], harness := (true, "54d2b5525ee80580d6a50c7950ac3b011a3c649472ca51a42b9b2040f26a4aa4"), looks := false }, kinds := [], alts := [], laidByText := true, laidKinds := [.data, .pinned], laidTests := true, laidLooks := .later }
def FnPathsCardSaid : Prop := Claim7.holds Tryd.pinned (.plain (OpenSpec.ofChange fnPathsSpec)) fnPathsCard

/-- THE TIED CARD OF 'laws.FnParents'. -/
def fnParentsCard : Claim7 := { stood := { row := fnParentsRow, standIns := [], harness := (true, "54d2b5525ee80580d6a50c7950ac3b011a3c649472ca51a42b9b2040f26a4aa4"), looks := false }, kinds := [], alts := [], laidByText := true, laidKinds := [.data, .pinned], laidTests := true, laidLooks := .later }
def FnParentsCardSaid : Prop := Claim7.holds Tryd.pinned (.plain (OpenSpec.ofChange fnParentsSpec)) fnParentsCard

/-- THE TIED CARD OF 'laws.FnExactWalk'. -/
def fnExactWalkCard : Claim7 := { stood := { row := fnExactWalkRow, standIns := [], harness := (true, "54d2b5525ee80580d6a50c7950ac3b011a3c649472ca51a42b9b2040f26a4aa4"), looks := false }, kinds := [], alts := [], laidByText := true, laidKinds := [.data, .pinned], laidTests := true, laidLooks := .later }
def FnExactWalkCardSaid : Prop := Claim7.holds Tryd.pinned (.plain (OpenSpec.ofChange fnExactWalkSpec)) fnExactWalkCard

/-- THE TIED CARD OF 'laws.FnExactGetAttr'. -/
def fnExactGetAttrCard : Claim7 := { stood := { row := fnExactGetAttrRow, standIns := [], harness := (true, "54d2b5525ee80580d6a50c7950ac3b011a3c649472ca51a42b9b2040f26a4aa4"), looks := false }, kinds := [], alts := [], laidByText := true, laidKinds := [.data, .pinned], laidTests := true, laidLooks := .later }
def FnExactGetAttrCardSaid : Prop := Claim7.holds Tryd.pinned (.plain (OpenSpec.ofChange fnExactGetAttrSpec)) fnExactGetAttrCard

/-- THE TIED CARD OF 'laws.FnExactReadFile'. -/
def fnExactReadFileCard : Claim7 := { stood := { row := fnExactReadFileRow, standIns := [], harness := (true, "54d2b5525ee80580d6a50c7950ac3b011a3c649472ca51a42b9b2040f26a4aa4"), looks := false }, kinds := [], alts := [], laidByText := true, laidKinds := [.data, .pinned], laidTests := true, laidLooks := .later }
def FnExactReadFileCardSaid : Prop := Claim7.holds Tryd.pinned (.plain (OpenSpec.ofChange fnExactReadFileSpec)) fnExactReadFileCard

/-- THE TIED CARD OF 'laws.FnExactList'. -/
def fnExactListCard : Claim7 := { stood := { row := fnExactListRow, standIns := [], harness := (true, "54d2b5525ee80580d6a50c7950ac3b011a3c649472ca51a42b9b2040f26a4aa4"), looks := false }, kinds := [], alts := [], laidByText := true, laidKinds := [.data, .pinned], laidTests := true, laidLooks := .later }
def FnExactListCardSaid : Prop := Claim7.holds Tryd.pinned (.plain (OpenSpec.ofChange fnExactListSpec)) fnExactListCard

/-- THE TIED CARD OF 'laws.FnExactStat'. -/
def fnExactStatCard : Claim7 := { stood := { row := fnExactStatRow, standIns := [], harness := (true, "54d2b5525ee80580d6a50c7950ac3b011a3c649472ca51a42b9b2040f26a4aa4"), looks := false }, kinds := [], alts := [], laidByText := true, laidKinds := [.data, .pinned], laidTests := true, laidLooks := .later }
def FnExactStatCardSaid : Prop := Claim7.holds Tryd.pinned (.plain (OpenSpec.ofChange fnExactStatSpec)) fnExactStatCard

/-- THE SECOND FORM's CARD OF 'laws.FnExactBelow'. -/
def fnExactBelowUptoCard : Claim7 := { stood := { row := fnExactBelowUptoRow, standIns := [], harness := (true, "54d2b5525ee80580d6a50c7950ac3b011a3c649472ca51a42b9b2040f26a4aa4"), looks := false }, kinds := [], alts := [], laidByText := true, laidKinds := [.data, .pinned], laidTests := true, laidLooks := .later }
def FnExactBelowUptoCardSaid : Prop := Claim7.holds Tryd.pinned (.plain (OpenSpec.upto fnExactBelowSpec)) fnExactBelowUptoCard

/-- THE SECOND FORM's CARD OF 'laws.FnExactSplitPath'. -/
def fnExactSplitPathUptoCard : Claim7 := { stood := { row := fnExactSplitPathUptoRow, standIns := [], harness := (true, "54d2b5525ee80580d6a50c7950ac3b011a3c649472ca51a42b9b2040f26a4aa4"), looks := false }, kinds := [], alts := [], laidByText := true, laidKinds := [.data, .pinned], laidTests := true, laidLooks := .later }
def FnExactSplitPathUptoCardSaid : Prop := Claim7.holds Tryd.pinned (.plain (OpenSpec.upto fnExactSplitPathSpec)) fnExactSplitPathUptoCard

/-- THE SECOND FORM's CARD OF 'laws.FnBelow'. -/
def fnBelowUptoCard : Claim7 := { stood := { row := fnBelowUptoRow, standIns := [], harness := (true, "54d2b5525ee80580d6a50c7950ac3b011a3c649472ca51a42b9b2040f26a4aa4"), looks := false }, kinds := [], alts := [], laidByText := true, laidKinds := [.data, .pinned], laidTests := true, laidLooks := .later }
def FnBelowUptoCardSaid : Prop := Claim7.holds Tryd.pinned (.plain (OpenSpec.upto fnBelowSpec)) fnBelowUptoCard

/-- THE SECOND FORM's CARD OF 'laws.FnExactParentOf'. -/
def fnExactParentOfUptoCard : Claim7 := { stood := { row := fnExactParentOfUptoRow, standIns := [], harness := (true, "54d2b5525ee80580d6a50c7950ac3b011a3c649472ca51a42b9b2040f26a4aa4"), looks := false }, kinds := [], alts := [], laidByText := true, laidKinds := [.data, .pinned], laidTests := true, laidLooks := .later }
def FnExactParentOfUptoCardSaid : Prop := Claim7.holds Tryd.pinned (.plain (OpenSpec.upto fnExactParentOfSpec)) fnExactParentOfUptoCard

/-- THE SECOND FORM's CARD OF 'laws.FnPaths'. -/
def fnPathsUptoCard : Claim7 := { stood := { row := fnPathsUptoRow, standIns := [], harness := (true, "54d2b5525ee80580d6a50c7950ac3b011a3c649472ca51a42b9b2040f26a4aa4"), looks := false }, kinds := [], alts := [], laidByText := true, laidKinds := [.data, .pinned], laidTests := true, laidLooks := .later }
def FnPathsUptoCardSaid : Prop := Claim7.holds Tryd.pinned (.plain (OpenSpec.upto fnPathsSpec)) fnPathsUptoCard

/-- THE SECOND FORM's CARD OF 'laws.FnParents'. -/
def fnParentsUptoCard : Claim7 := { stood := { row := fnParentsUptoRow, standIns := [], harness := (true, "54d2b5525ee80580d6a50c7950ac3b011a3c649472ca51a42b9b2040f26a4aa4"), looks := false }, kinds := [], alts := [], laidByText := true, laidKinds := [.data, .pinned], laidTests := true, laidLooks := .later }
def FnParentsUptoCardSaid : Prop := Claim7.holds Tryd.pinned (.plain (OpenSpec.upto fnParentsSpec)) fnParentsUptoCard

/-- THE SECOND FORM's CARD OF 'laws.FnExactWalk'. -/
def fnExactWalkUptoCard : Claim7 := { stood := { row := fnExactWalkUptoRow, standIns := [], harness := (true, "54d2b5525ee80580d6a50c7950ac3b011a3c649472ca51a42b9b2040f26a4aa4"), looks := false }, kinds := [], alts := [], laidByText := true, laidKinds := [.data, .pinned], laidTests := true, laidLooks := .later }
def FnExactWalkUptoCardSaid : Prop := Claim7.holds Tryd.pinned (.plain (OpenSpec.upto fnExactWalkSpec)) fnExactWalkUptoCard

/-- THE SECOND FORM's CARD OF 'laws.FnExactGetAttr'. -/
def fnExactGetAttrUptoCard : Claim7 := { stood := { row := fnExactGetAttrUptoRow, standIns := [], harness := (true, "54d2b5525ee80580d6a50c7950ac3b011a3c649472ca51a42b9b2040f26a4aa4"), looks := false }, kinds := [], alts := [], laidByText := true, laidKinds := [.data, .pinned], laidTests := true, laidLooks := .later }
def FnExactGetAttrUptoCardSaid : Prop := Claim7.holds Tryd.pinned (.plain (OpenSpec.upto fnExactGetAttrSpec)) fnExactGetAttrUptoCard

/-- THE SECOND FORM's CARD OF 'laws.FnExactReadFile'. -/
def fnExactReadFileUptoCard : Claim7 := { stood := { row := fnExactReadFileUptoRow, standIns := [], harness := (true, "54d2b5525ee80580d6a50c7950ac3b011a3c649472ca51a42b9b2040f26a4aa4"), looks := false }, kinds := [], alts := [], laidByText := true, laidKinds := [.data, .pinned], laidTests := true, laidLooks := .later }
def FnExactReadFileUptoCardSaid : Prop := Claim7.holds Tryd.pinned (.plain (OpenSpec.upto fnExactReadFileSpec)) fnExactReadFileUptoCard

/-- THE SECOND FORM's CARD OF 'laws.FnExactList'. -/
def fnExactListUptoCard : Claim7 := { stood := { row := fnExactListUptoRow, standIns := [], harness := (true, "54d2b5525ee80580d6a50c7950ac3b011a3c649472ca51a42b9b2040f26a4aa4"), looks := false }, kinds := [], alts := [], laidByText := true, laidKinds := [.data, .pinned], laidTests := true, laidLooks := .later }
def FnExactListUptoCardSaid : Prop := Claim7.holds Tryd.pinned (.plain (OpenSpec.upto fnExactListSpec)) fnExactListUptoCard

/-- THE SECOND FORM's CARD OF 'laws.FnExactStat'. -/
def fnExactStatUptoCard : Claim7 := { stood := { row := fnExactStatUptoRow, standIns := [], harness := (true, "54d2b5525ee80580d6a50c7950ac3b011a3c649472ca51a42b9b2040f26a4aa4"), looks := false }, kinds := [], alts := [], laidByText := true, laidKinds := [.data, .pinned], laidTests := true, laidLooks := .later }
def FnExactStatUptoCardSaid : Prop := Claim7.holds Tryd.pinned (.plain (OpenSpec.upto fnExactStatSpec)) fnExactStatUptoCard
end Rows
end Go.Proofs.YtkfcmpalbhmmaaaDoor
