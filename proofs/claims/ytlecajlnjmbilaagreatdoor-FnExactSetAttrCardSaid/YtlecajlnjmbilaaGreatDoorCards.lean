/-
  DERIVED. GIVEN WITH THE SEED: THE CARDS: each row of YtlecajlnjmbilaaGreatDoorRows.lean that lists a variable, with what it lists TIED to the program's text (the seventh form; the later family's looks); each row that meets fmt, with fmt's text TOLD by the authors' own Lean function (tested against real Go, not proved from fmt's source: count such statements apart). THE CARD IS WHAT COUNTS. Prove the row's statement (the work); the ties are given (YtlecajlnjmbilaaGreatDoorTie.lean); close each card by the builder's one call (the guide's Derived/Test/ToyasCard.lean, 'card_holds'). Laid BY PROGRAM, IN A SANDBOX (cutbox-door.mjs). By AI agents, Wed Nov 11 2026. No macro, syntax, notation, axiom, sorry.
-/
import Derived.Test.YtlecajlnjmbilaaGreatDoorRows
import GoSem.ClaimSeven
namespace Go.Proofs.YtlecajlnjmbilaaGreatDoor
namespace Rows

/-- THE TIED CARD OF 'laws.FnExactMakeFile'. -/
def fnExactMakeFileCard : Claim7 := { stood := { row := fnExactMakeFileRow, standIns := [], harness := (true, "66c7900024005d67df4194d74a00d411cd8b115c0adedbd4d2cf7cdf8201b696"), looks := false }, kinds := [], alts := [], laidByText := true, laidKinds := [.data, .pinned], laidTests := true, laidLooks := .later }
def FnExactMakeFileCardSaid : Prop := Claim7.holds Tryz.pinned (.plain (OpenSpec.ofChange fnExactMakeFileSpec)) fnExactMakeFileCard

/-- THE TIED CARD OF 'laws.FnExactRemoveDir'. -/
def fnExactRemoveDirCard : Claim7 := { stood := { row := fnExactRemoveDirRow, standIns := [], harness := (true, "66c7900024005d67df4194d74a00d411cd8b115c0adedbd4d2cf7cdf8201b696"), looks := false }, kinds := [], alts := [], laidByText := true, laidKinds := [.data, .pinned], laidTests := true, laidLooks := .later }
def FnExactRemoveDirCardSaid : Prop := Claim7.holds Tryz.pinned (.plain (OpenSpec.ofChange fnExactRemoveDirSpec)) fnExactRemoveDirCard

/-- THE TIED CARD OF 'laws.FnExactHardLink'. -/
def fnExactHardLinkCard : Claim7 := { stood := { row := fnExactHardLinkRow, standIns := [], harness := (true, "66c7900024005d67df4194d74a00d411cd8b115c0adedbd4d2cf7cdf8201b696"), looks := false }, kinds := [], alts := [], laidByText := true, laidKinds := [.data, .pinned], laidTests := true, laidLooks := .later }
def FnExactHardLinkCardSaid : Prop := Claim7.holds Tryz.pinned (.plain (OpenSpec.ofChange fnExactHardLinkSpec)) fnExactHardLinkCard

/-- THE TIED CARD OF 'laws.FnExactTruncate'. -/
def fnExactTruncateCard : Claim7 := { stood := { row := fnExactTruncateRow, standIns := [], harness := (true, "66c7900024005d67df4194d74a00d411cd8b115c0adedbd4d2cf7cdf8201b696"), looks := false }, kinds := [], alts := [], laidByText := true, laidKinds := [.data, .pinned], laidTests := true, laidLooks := .later }
def FnExactTruncateCardSaid : Prop := Claim7.holds Tryz.pinned (.plain (OpenSpec.ofChange fnExactTruncateSpec)) fnExactTruncateCard

/-- THE TIED CARD OF 'laws.FnExactWriteAt'. -/
def fnExactWriteAtCard : Claim7 := { stood := { row := fnExactWriteAtRow, standIns := [], harness := (true, "66c7900024005d67df4194d74a00d411cd8b115c0adedbd4d2cf7cdf8201b696"), looks := false }, kinds := [], alts := [], laidByText := true, laidKinds := [.data, .pinned], laidTests := true, laidLooks := .later }
def FnExactWriteAtCardSaid : Prop := Claim7.holds Tryz.pinned (.plain (OpenSpec.ofChange fnExactWriteAtSpec)) fnExactWriteAtCard

/-- THE TIED CARD OF 'laws.FnExactSetAttr'. -/
def fnExactSetAttrCard : Claim7 := { stood := { row := fnExactSetAttrRow, standIns := [], harness := (true, "66c7900024005d67df4194d74a00d411cd8b115c0adedbd4d2cf7cdf8201b696"), looks := false }, kinds := [], alts := [], laidByText := true, laidKinds := [.data, .pinned], laidTests := true, laidLooks := .later }
def FnExactSetAttrCardSaid : Prop := Claim7.holds Tryz.pinned (.plain (OpenSpec.ofChange fnExactSetAttrSpec)) fnExactSetAttrCard

/-- THE TIED CARD OF 'laws.FnExactMakeDir'. -/
def fnExactMakeDirCard : Claim7 := { stood := { row := fnExactMakeDirRow, standIns := [], harness := (true, "66c7900024005d67df4194d74a00d411cd8b115c0adedbd4d2cf7cdf8201b696"), looks := false }, kinds := [], alts := [], laidByText := true, laidKinds := [.data, .pinned], laidTests := true, laidLooks := .later }
def FnExactMakeDirCardSaid : Prop := Claim7.holds Tryz.pinned (.plain (OpenSpec.ofChange fnExactMakeDirSpec)) fnExactMakeDirCard

/-- THE SECOND FORM's CARD OF 'laws.FnExactMakeFile'. -/
def fnExactMakeFileUptoCard : Claim7 := { stood := { row := fnExactMakeFileUptoRow, standIns := [], harness := (true, "66c7900024005d67df4194d74a00d411cd8b115c0adedbd4d2cf7cdf8201b696"), looks := false }, kinds := [], alts := [], laidByText := true, laidKinds := [.data, .pinned], laidTests := true, laidLooks := .later }
def FnExactMakeFileUptoCardSaid : Prop := Claim7.holds Tryz.pinned (.plain (OpenSpec.upto fnExactMakeFileSpec)) fnExactMakeFileUptoCard

/-- THE SECOND FORM's CARD OF 'laws.FnExactRemoveDir'. -/
def fnExactRemoveDirUptoCard : Claim7 := { stood := { row := fnExactRemoveDirUptoRow, standIns := [], harness := (true, "66c7900024005d67df4194d74a00d411cd8b115c0adedbd4d2cf7cdf8201b696"), looks := false }, kinds := [], alts := [], laidByText := true, laidKinds := [.data, .pinned], laidTests := true, laidLooks := .later }
def FnExactRemoveDirUptoCardSaid : Prop := Claim7.holds Tryz.pinned (.plain (OpenSpec.upto fnExactRemoveDirSpec)) fnExactRemoveDirUptoCard

/-- THE SECOND FORM's CARD OF 'laws.FnExactHardLink'. -/
def fnExactHardLinkUptoCard : Claim7 := { stood := { row := fnExactHardLinkUptoRow, standIns := [], harness := (true, "66c7900024005d67df4194d74a00d411cd8b115c0adedbd4d2cf7cdf8201b696"), looks := false }, kinds := [], alts := [], laidByText := true, laidKinds := [.data, .pinned], laidTests := true, laidLooks := .later }
def FnExactHardLinkUptoCardSaid : Prop := Claim7.holds Tryz.pinned (.plain (OpenSpec.upto fnExactHardLinkSpec)) fnExactHardLinkUptoCard

/-- THE SECOND FORM's CARD OF 'laws.FnExactTruncate'. -/
def fnExactTruncateUptoCard : Claim7 := { stood := { row := fnExactTruncateUptoRow, standIns := [], harness := (true, "66c7900024005d67df4194d74a00d411cd8b115c0adedbd4d2cf7cdf8201b696"), looks := false }, kinds := [], alts := [], laidByText := true, laidKinds := [.data, .pinned], laidTests := true, laidLooks := .later }
def FnExactTruncateUptoCardSaid : Prop := Claim7.holds Tryz.pinned (.plain (OpenSpec.upto fnExactTruncateSpec)) fnExactTruncateUptoCard

/-- THE SECOND FORM's CARD OF 'laws.FnExactWriteAt'. -/
def fnExactWriteAtUptoCard : Claim7 := { stood := { row := fnExactWriteAtUptoRow, standIns := [], harness := (true, "66c7900024005d67df4194d74a00d411cd8b115c0adedbd4d2cf7cdf8201b696"), looks := false }, kinds := [], alts := [], laidByText := true, laidKinds := [.data, .pinned], laidTests := true, laidLooks := .later }
def FnExactWriteAtUptoCardSaid : Prop := Claim7.holds Tryz.pinned (.plain (OpenSpec.upto fnExactWriteAtSpec)) fnExactWriteAtUptoCard

/-- THE SECOND FORM's CARD OF 'laws.FnExactSetAttr'. -/
def fnExactSetAttrUptoCard : Claim7 := { stood := { row := fnExactSetAttrUptoRow, standIns := [], harness := (true, "66c7900024005d67df4194d74a00d411cd8b115c0adedbd4d2cf7cdf8201b696"), looks := false }, kinds := [], alts := [], laidByText := true, laidKinds := [.data, .pinned], laidTests := true, laidLooks := .later }
def FnExactSetAttrUptoCardSaid : Prop := Claim7.holds Tryz.pinned (.plain (OpenSpec.upto fnExactSetAttrSpec)) fnExactSetAttrUptoCard

/-- THE SECOND FORM's CARD OF 'laws.FnExactMakeDir'. -/
def fnExactMakeDirUptoCard : Claim7 := { stood := { row := fnExactMakeDirUptoRow, standIns := [], harness := (true, "66c7900024005d67df4194d74a00d411cd8b115c0adedbd4d2cf7cdf8201b696"), looks := false }, kinds := [], alts := [], laidByText := true, laidKinds := [.data, .pinned], laidTests := true, laidLooks := .later }
def FnExactMakeDirUptoCardSaid : Prop := Claim7.holds Tryz.pinned (.plain (OpenSpec.upto fnExactMakeDirSpec)) fnExactMakeDirUptoCard
end Rows
end Go.Proofs.YtlecajlnjmbilaaGreatDoor
