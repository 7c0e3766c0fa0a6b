/- What is to be proved in plain words of FnExactSplitPath. -/
import Derived.Test.YtkfcmpalbhmmaaaDoorKinds
import Derived.Test.YtkfcmpalbhmmaaaDoorPx1
namespace Go.Proofs.YtkfcmpalbhmmaaaDoor.AskFnExactSplitPath
open Go.RowKit Go.Proofs.YtkfcmpalbhmmaaaDoor.P Go.Proofs.YtkfcmpalbhmmaaaDoor.Op Go.Proofs.YtkfcmpalbhmmaaaDoorW.PrintWords Go.Proofs.YtkfcmpalbhmmaaaDoorW.PrintLast Go.Proofs.YtkfcmpalbhmmaaaDoorW.PrintMore Go.Proofs.YtkfcmpalbhmmaaaDoor.Kinds
def Pure : Prop := ∀ (x0 : ByteArray), (fun s : ByteArray => s.size ≤ maxLen) x0 → ∃ k, laws_FnExactSplitPath.f k x0 = some true
end Go.Proofs.YtkfcmpalbhmmaaaDoor.AskFnExactSplitPath
