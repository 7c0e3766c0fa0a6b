/-
  DERIVED. GIVEN WITH THE SEED: THE CARDS: each row of YtkfoopcpihmbmaaGreatDoorRows.lean that lists a variable, with what it lists TIED to the program's text (the seventh form; the later family's looks); each row that meets fmt, with fmt's text TOLD by the authors' own Lean function (tested against real Go, not proved from fmt's source: count such statements apart). THE CARD IS WHAT COUNTS. Prove the row's statement (the work); the ties are given (YtkfoopcpihmbmaaGreatDoorTie.lean); close each card by the builder's one call (the guide's Derived/Test/ToyasCard.lean, 'card_holds'). Laid BY PROGRAM, IN A SANDBOX (cutbox-door.mjs). By AI agents, Wed Nov 11 2026. No macro, syntax, notation, axiom, sorry.
-/
import Derived.Test.YtkfoopcpihmbmaaGreatDoorRows
import GoSem.ClaimSeven
namespace Go.Proofs.YtkfoopcpihmbmaaGreatDoor
namespace Rows

/-- THE TIED CARD OF 'laws.FnLooked'. -/
def fnLookedCard : Claim7 := { stood := { row := fnLookedRow, standIns := [], harness := (true, "295616ef04483c2ec4578c8f15b42cfd5c33bf9f5290e60b4c51c1c7ef7fdfbc"), looks := false }, kinds := [], alts := [], laidByText := true, laidKinds := [.data, .pinned], laidTests := true, laidLooks := .later }
def FnLookedCardSaid : Prop := Claim7.holds Tryz.pinned (.plain (OpenSpec.ofChange fnLookedSpec)) fnLookedCard

/-- THE TIED CARD OF 'laws.FnRead'. -/
def fnReadCard : Claim7 := { stood := { row := fnReadRow, standIns := [], harness := (true, "295616ef04483c2ec4578c8f15b42cfd5c33bf9f5290e60b4c51c1c7ef7fdfbc"), looks := false }, kinds := [], alts := [], laidByText := true, laidKinds := [.data, .pinned], laidTests := true, laidLooks := .later }
def FnReadCardSaid : Prop := Claim7.holds Tryz.pinned (.plain (OpenSpec.ofChange fnReadSpec)) fnReadCard

/-- THE TIED CARD OF 'laws.FnWalked'. -/
def fnWalkedCard : Claim7 := { stood := { row := fnWalkedRow, standIns := [], harness := (true, "295616ef04483c2ec4578c8f15b42cfd5c33bf9f5290e60b4c51c1c7ef7fdfbc"), looks := false }, kinds := [], alts := [], laidByText := true, laidKinds := [.data, .pinned], laidTests := true, laidLooks := .later }
def FnWalkedCardSaid : Prop := Claim7.holds Tryz.pinned (.plain (OpenSpec.ofChange fnWalkedSpec)) fnWalkedCard

/-- THE TIED CARD OF 'laws.FnNewTabs'. -/
def fnNewTabsCard : Claim7 := { stood := { row := fnNewTabsRow, standIns := [], harness := (true, "295616ef04483c2ec4578c8f15b42cfd5c33bf9f5290e60b4c51c1c7ef7fdfbc"), looks := false }, kinds := [], alts := [], laidByText := true, laidKinds := [.data, .pinned], laidTests := true, laidLooks := .later }
def FnNewTabsCardSaid : Prop := Claim7.holds Tryz.pinned (.plain (OpenSpec.ofChange fnNewTabsSpec)) fnNewTabsCard

/-- THE TIED CARD OF 'laws.FnCut'. -/
def fnCutCard : Claim7 := { stood := { row := fnCutRow, standIns := [], harness := (true, "295616ef04483c2ec4578c8f15b42cfd5c33bf9f5290e60b4c51c1c7ef7fdfbc"), looks := false }, kinds := [], alts := [], laidByText := true, laidKinds := [.data, .pinned], laidTests := true, laidLooks := .later }
def FnCutCardSaid : Prop := Claim7.holds Tryz.pinned (.plain (OpenSpec.ofChange fnCutSpec)) fnCutCard

/-- THE TIED CARD OF 'laws.FnWritten'. -/
def fnWrittenCard : Claim7 := { stood := { row := fnWrittenRow, standIns := [], harness := (true, "295616ef04483c2ec4578c8f15b42cfd5c33bf9f5290e60b4c51c1c7ef7fdfbc"), looks := false }, kinds := [], alts := [], laidByText := true, laidKinds := [.data, .pinned], laidTests := true, laidLooks := .later }
def FnWrittenCardSaid : Prop := Claim7.holds Tryz.pinned (.plain (OpenSpec.ofChange fnWrittenSpec)) fnWrittenCard

/-- THE TIED CARD OF 'laws.FnAttrs'. -/
def fnAttrsCard : Claim7 := { stood := { row := fnAttrsRow, standIns := [], harness := (true, "295616ef04483c2ec4578c8f15b42cfd5c33bf9f5290e60b4c51c1c7ef7fdfbc"), looks := false }, kinds := [], alts := [], laidByText := true, laidKinds := [.data, .pinned], laidTests := true, laidLooks := .later }
def FnAttrsCardSaid : Prop := Claim7.holds Tryz.pinned (.plain (OpenSpec.ofChange fnAttrsSpec)) fnAttrsCard

/-- THE SECOND FORM's CARD OF 'laws.FnLooked'. -/
def fnLookedUptoCard : Claim7 := { stood := { row := fnLookedUptoRow, standIns := [], harness := (true, "295616ef04483c2ec4578c8f15b42cfd5c33bf9f5290e60b4c51c1c7ef7fdfbc"), looks := false }, kinds := [], alts := [], laidByText := true, laidKinds := [.data, .pinned], laidTests := true, laidLooks := .later }
def FnLookedUptoCardSaid : Prop := Claim7.holds Tryz.pinned (.plain (OpenSpec.upto fnLookedSpec)) fnLookedUptoCard

/-- THE SECOND FORM's CARD OF 'laws.FnRead'. -/
def fnReadUptoCard : Claim7 := { stood := { row := fnReadUptoRow, standIns := [], harness := (true, "295616ef04483c2ec4578c8f15b42cfd5c33bf9f5290e60b4c51c1c7ef7fdfbc"), looks := false }, kinds := [], alts := [], laidByText := true, laidKinds := [.data, .pinned], laidTests := true, laidLooks := .later }
def FnReadUptoCardSaid : Prop := Claim7.holds Tryz.pinned (.plain (OpenSpec.upto fnReadSpec)) fnReadUptoCard

/-- THE SECOND FORM's CARD OF 'laws.FnWalked'. -/
def fnWalkedUptoCard : Claim7 := { stood := { row := fnWalkedUptoRow, standIns := [], harness := (true, "295616ef04483c2ec4578c8f15b42cfd5c33bf9f5290e60b4c51c1c7ef7fdfbc"), looks := false }, kinds := [], alts := [], laidByText := true, laidKinds := [.data, .pinned], laidTests := true, laidLooks := .later }
def FnWalkedUptoCardSaid : Prop := Claim7.holds Tryz.pinned (.plain (OpenSpec.upto fnWalkedSpec)) fnWalkedUptoCard

/-- THE SECOND FORM's CARD OF 'laws.FnNewTabs'. -/
def fnNewTabsUptoCard : Claim7 := { stood := { row := fnNewTabsUptoRow, standIns := [], harness := (true, "295616ef04483c2ec4578c8f15b42cfd5c33bf9f5290e60b4c51c1c7ef7fdfbc"), looks := false }, kinds := [], alts := [], laidByText := true, laidKinds := [.data, .pinned], laidTests := true, laidLooks := .later }
def FnNewTabsUptoCardSaid : Prop := Claim7.holds Tryz.pinned (.plain (OpenSpec.upto fnNewTabsSpec)) fnNewTabsUptoCard

/-- THE SECOND FORM's CARD OF 'laws.FnCut'. -/
def fnCutUptoCard : Claim7 := { stood := { row := fnCutUptoRow, standIns := [], harness := (true, "295616ef04483c2ec4578c8f15b42cfd5c33bf9f5290e60b4c51c1c7ef7fdfbc"), looks := false }, kinds := [], alts := [], laidByText := true, laidKinds := [.data, .pinned], laidTests := true, laidLooks := .later }
def FnCutUptoCardSaid : Prop := Claim7.holds Tryz.pinned (.plain (OpenSpec.upto fnCutSpec)) fnCutUptoCard

/-- THE SECOND FORM's CARD OF 'laws.FnWritten'. -/
def fnWrittenUptoCard : Claim7 := { stood := { row := fnWrittenUptoRow, standIns := [], harness := (true, "295616ef04483c2ec4578c8f15b42cfd5c33bf9f5290e60b4c51c1c7ef7fdfbc"), looks := false }, kinds := [], alts := [], laidByText := true, laidKinds := [.data, .pinned], laidTests := true, laidLooks := .later }
def FnWrittenUptoCardSaid : Prop := Claim7.holds Tryz.pinned (.plain (OpenSpec.upto fnWrittenSpec)) fnWrittenUptoCard

/-- THE SECOND FORM's CARD OF 'laws.FnAttrs'. -/
def fnAttrsUptoCard : Claim7 := { stood := { row := fnAttrsUptoRow, standIns := [], harness := (true, "295616ef04483c2ec4578c8f15b42cfd5c33bf9f5290e60b4c51c1c7ef7fdfbc"), looks := false }, kinds := [], alts := [], laidByText := true, laidKinds := [.data, .pinned], laidTests := true, laidLooks := .later }
def FnAttrsUptoCardSaid : Prop := Claim7.holds Tryz.pinned (.plain (OpenSpec.upto fnAttrsSpec)) fnAttrsUptoCard
end Rows
end Go.Proofs.YtkfoopcpihmbmaaGreatDoor
