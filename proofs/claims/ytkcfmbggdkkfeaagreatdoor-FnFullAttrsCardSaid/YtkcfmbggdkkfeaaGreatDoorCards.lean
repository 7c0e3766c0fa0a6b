/-
  DERIVED. GIVEN WITH THE SEED: THE CARDS: each row of YtkcfmbggdkkfeaaGreatDoorRows.lean that lists a variable, with what it lists TIED to the program's text (the seventh form; the later family's looks); each row that meets fmt, with fmt's text TOLD by the authors' own Lean function (tested against real Go, not proved from fmt's source: count such statements apart). THE CARD IS WHAT COUNTS. Prove the row's statement (the work); the ties are given (YtkcfmbggdkkfeaaGreatDoorTie.lean); close each card by the builder's one call (the guide's Derived/Test/ToyasCard.lean, 'card_holds'). Laid BY PROGRAM, IN A SANDBOX (cutbox-door.mjs). By AI agents, Wed Nov 11 2026. No macro, syntax, notation, axiom, sorry.
-/
import Derived.Test.YtkcfmbggdkkfeaaGreatDoorRows
import GoSem.ClaimSeven
namespace Go.Proofs.YtkcfmbggdkkfeaaGreatDoor
namespace Rows

/-- THE TIED CARD OF 'laws.FnDeep'. -/
def fnDeepCard : Claim7 := { stood := { row := fnDeepRow, standIns := [], harness := (true, "4158b9d27d04065619f4fe29f047d50affc8b082b2d4c99fb4a6199f10c0670a"), looks := false }, kinds := [], alts := [], laidByText := true, laidKinds := [.data, .pinned], laidTests := true, laidLooks := .later }
def FnDeepCardSaid : Prop := Claim7.holds Tryz.pinned (.plain (OpenSpec.ofChange fnDeepSpec)) fnDeepCard

/-- THE TIED CARD OF 'laws.FnHoles'. -/
def fnHolesCard : Claim7 := { stood := { row := fnHolesRow, standIns := [], harness := (true, "4158b9d27d04065619f4fe29f047d50affc8b082b2d4c99fb4a6199f10c0670a"), looks := false }, kinds := [], alts := [], laidByText := true, laidKinds := [.data, .pinned], laidTests := true, laidLooks := .later }
def FnHolesCardSaid : Prop := Claim7.holds Tryz.pinned (.plain (OpenSpec.ofChange fnHolesSpec)) fnHolesCard

/-- THE TIED CARD OF 'laws.FnBigFile'. -/
def fnBigFileCard : Claim7 := { stood := { row := fnBigFileRow, standIns := [], harness := (true, "4158b9d27d04065619f4fe29f047d50affc8b082b2d4c99fb4a6199f10c0670a"), looks := false }, kinds := [], alts := [], laidByText := true, laidKinds := [.data, .pinned], laidTests := true, laidLooks := .later }
def FnBigFileCardSaid : Prop := Claim7.holds Tryz.pinned (.plain (OpenSpec.ofChange fnBigFileSpec)) fnBigFileCard

/-- THE TIED CARD OF 'laws.FnFullAttrs'. -/
def fnFullAttrsCard : Claim7 := { stood := { row := fnFullAttrsRow, standIns := [], harness := (true, "4158b9d27d04065619f4fe29f047d50affc8b082b2d4c99fb4a6199f10c0670a"), looks := false }, kinds := [], alts := [], laidByText := true, laidKinds := [.data, .pinned], laidTests := true, laidLooks := .later }
def FnFullAttrsCardSaid : Prop := Claim7.holds Tryz.pinned (.plain (OpenSpec.ofChange fnFullAttrsSpec)) fnFullAttrsCard

/-- THE TIED CARD OF 'laws.FnLinkCount'. -/
def fnLinkCountCard : Claim7 := { stood := { row := fnLinkCountRow, standIns := [], harness := (true, "4158b9d27d04065619f4fe29f047d50affc8b082b2d4c99fb4a6199f10c0670a"), looks := false }, kinds := [], alts := [], laidByText := true, laidKinds := [.data, .pinned], laidTests := true, laidLooks := .later }
def FnLinkCountCardSaid : Prop := Claim7.holds Tryz.pinned (.plain (OpenSpec.ofChange fnLinkCountSpec)) fnLinkCountCard

/-- THE TIED CARD OF 'laws.FnFullDir'. -/
def fnFullDirCard : Claim7 := { stood := { row := fnFullDirRow, standIns := [], harness := (true, "4158b9d27d04065619f4fe29f047d50affc8b082b2d4c99fb4a6199f10c0670a"), looks := false }, kinds := [], alts := [], laidByText := true, laidKinds := [.data, .pinned], laidTests := true, laidLooks := .later }
def FnFullDirCardSaid : Prop := Claim7.holds Tryz.pinned (.plain (OpenSpec.ofChange fnFullDirSpec)) fnFullDirCard

/-- THE TIED CARD OF 'laws.FnMovedTree'. -/
def fnMovedTreeCard : Claim7 := { stood := { row := fnMovedTreeRow, standIns := [], harness := (true, "4158b9d27d04065619f4fe29f047d50affc8b082b2d4c99fb4a6199f10c0670a"), looks := false }, kinds := [], alts := [], laidByText := true, laidKinds := [.data, .pinned], laidTests := true, laidLooks := .later }
def FnMovedTreeCardSaid : Prop := Claim7.holds Tryz.pinned (.plain (OpenSpec.ofChange fnMovedTreeSpec)) fnMovedTreeCard

/-- THE TIED CARD OF 'laws.FnKinds'. -/
def fnKindsCard : Claim7 := { stood := { row := fnKindsRow, standIns := [], harness := (true, "4158b9d27d04065619f4fe29f047d50affc8b082b2d4c99fb4a6199f10c0670a"), looks := false }, kinds := [], alts := [], laidByText := true, laidKinds := [.data, .pinned], laidTests := true, laidLooks := .later }
def FnKindsCardSaid : Prop := Claim7.holds Tryz.pinned (.plain (OpenSpec.ofChange fnKindsSpec)) fnKindsCard

/-- THE SECOND FORM's CARD OF 'laws.FnDeep'. -/
def fnDeepUptoCard : Claim7 := { stood := { row := fnDeepUptoRow, standIns := [], harness := (true, "4158b9d27d04065619f4fe29f047d50affc8b082b2d4c99fb4a6199f10c0670a"), looks := false }, kinds := [], alts := [], laidByText := true, laidKinds := [.data, .pinned], laidTests := true, laidLooks := .later }
def FnDeepUptoCardSaid : Prop := Claim7.holds Tryz.pinned (.plain (OpenSpec.upto fnDeepSpec)) fnDeepUptoCard

/-- THE SECOND FORM's CARD OF 'laws.FnHoles'. -/
def fnHolesUptoCard : Claim7 := { stood := { row := fnHolesUptoRow, standIns := [], harness := (true, "4158b9d27d04065619f4fe29f047d50affc8b082b2d4c99fb4a6199f10c0670a"), looks := false }, kinds := [], alts := [], laidByText := true, laidKinds := [.data, .pinned], laidTests := true, laidLooks := .later }
def FnHolesUptoCardSaid : Prop := Claim7.holds Tryz.pinned (.plain (OpenSpec.upto fnHolesSpec)) fnHolesUptoCard

/-- THE SECOND FORM's CARD OF 'laws.FnBigFile'. -/
def fnBigFileUptoCard : Claim7 := { stood := { row := fnBigFileUptoRow, standIns := [], harness := (true, "4158b9d27d04065619f4fe29f047d50affc8b082b2d4c99fb4a6199f10c0670a"), looks := false }, kinds := [], alts := [], laidByText := true, laidKinds := [.data, .pinned], laidTests := true, laidLooks := .later }
def FnBigFileUptoCardSaid : Prop := Claim7.holds Tryz.pinned (.plain (OpenSpec.upto fnBigFileSpec)) fnBigFileUptoCard

/-- THE SECOND FORM's CARD OF 'laws.FnFullAttrs'. -/
def fnFullAttrsUptoCard : Claim7 := { stood := { row := fnFullAttrsUptoRow, standIns := [], harness := (true, "4158b9d27d04065619f4fe29f047d50affc8b082b2d4c99fb4a6199f10c0670a"), looks := false }, kinds := [], alts := [], laidByText := true, laidKinds := [.data, .pinned], laidTests := true, laidLooks := .later }
def FnFullAttrsUptoCardSaid : Prop := Claim7.holds Tryz.pinned (.plain (OpenSpec.upto fnFullAttrsSpec)) fnFullAttrsUptoCard

/-- THE SECOND FORM's CARD OF 'laws.FnLinkCount'. -/
def fnLinkCountUptoCard : Claim7 := { stood := { row := fnLinkCountUptoRow, standIns := [], harness := (true, "4158b9d27d04065619f4fe29f047d50affc8b082b2d4c99fb4a6199f10c0670a"), looks := false }, kinds := [], alts := [], laidByText := true, laidKinds := [.data, .pinned], laidTests := true, laidLooks := .later }
def FnLinkCountUptoCardSaid : Prop := Claim7.holds Tryz.pinned (.plain (OpenSpec.upto fnLinkCountSpec)) fnLinkCountUptoCard

/-- THE SECOND FORM's CARD OF 'laws.FnFullDir'. -/
def fnFullDirUptoCard : Claim7 := { stood := { row := fnFullDirUptoRow, standIns := [], harness := (true, "4158b9d27d04065619f4fe29f047d50affc8b082b2d4c99fb4a6199f10c0670a"), looks := false }, kinds := [], alts := [], laidByText := true, laidKinds := [.data, .pinned], laidTests := true, laidLooks := .later }
def FnFullDirUptoCardSaid : Prop := Claim7.holds Tryz.pinned (.plain (OpenSpec.upto fnFullDirSpec)) fnFullDirUptoCard

/-- THE SECOND FORM's CARD OF 'laws.FnMovedTree'. -/
def fnMovedTreeUptoCard : Claim7 := { stood := { row := fnMovedTreeUptoRow, standIns := [], harness := (true, "4158b9d27d04065619f4fe29f047d50affc8b082b2d4c99fb4a6199f10c0670a"), looks := false }, kinds := [], alts := [], laidByText := true, laidKinds := [.data, .pinned], laidTests := true, laidLooks := .later }
def FnMovedTreeUptoCardSaid : Prop := Claim7.holds Tryz.pinned (.plain (OpenSpec.upto fnMovedTreeSpec)) fnMovedTreeUptoCard

/-- THE SECOND FORM's CARD OF 'laws.FnKinds'. -/
def fnKindsUptoCard : Claim7 := { stood := { row := fnKindsUptoRow, standIns := [], harness := (true, "4158b9d27d04065619f4fe29f047d50affc8b082b2d4c99fb4a6199f10c0670a"), looks := false }, kinds := [], alts := [], laidByText := true, laidKinds := [.data, .pinned], laidTests := true, laidLooks := .later }
def FnKindsUptoCardSaid : Prop := Claim7.holds Tryz.pinned (.plain (OpenSpec.upto fnKindsSpec)) fnKindsUptoCard
end Rows
end Go.Proofs.YtkcfmbggdkkfeaaGreatDoor
