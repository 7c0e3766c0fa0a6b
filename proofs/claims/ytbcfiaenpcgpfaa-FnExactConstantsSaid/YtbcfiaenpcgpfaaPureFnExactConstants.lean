/- FnExactConstants of the given program returns true: each of the program's constants has the value that the document gives it. No condition. -/
import Derived.Test.YtbcfiaenpcgpfaaPFnExactConstantsx1
namespace Go.Proofs.Ytbcfiaenpcgpfaa.Pure
open Go.RowKit Go.Proofs.Ytbcfiaenpcgpfaa.PFnExactConstants Go.Proofs.YtbcfiaenpcgpfaaW.PrintWords Go.Proofs.YtbcfiaenpcgpfaaW.PrintLast

/-- YOURS: laws_FnExactConstants.f  = some true
What it reaches (each with k first where it has rounds; `.mono`: more rounds tell the same; `.l0`, ..: its loops, with `.mono_l`): laws_FnExactConstants.f -/
theorem FnExactConstants : laws_FnExactConstants.Pure := by
  rfl

end Go.Proofs.Ytbcfiaenpcgpfaa.Pure
