/- What is to be proved in plain words of FnExactList. -/
import Derived.Test.YtkfcmpalbhmmaaaDoorKinds
import Derived.Test.YtkfcmpalbhmmaaaDoorPx5
namespace Go.Proofs.YtkfcmpalbhmmaaaDoor.AskFnExactList
open Go.RowKit Go.Proofs.YtkfcmpalbhmmaaaDoor.P Go.Proofs.YtkfcmpalbhmmaaaDoor.Op Go.Proofs.YtkfcmpalbhmmaaaDoorW.PrintWords Go.Proofs.YtkfcmpalbhmmaaaDoorW.PrintLast Go.Proofs.YtkfcmpalbhmmaaaDoorW.PrintMore Go.Proofs.YtkfcmpalbhmmaaaDoor.Kinds
def Pure : Prop := ∀ (x0 : S40) (x1 : ByteArray), g40 x0 → (fun s : ByteArray => s.size ≤ maxLen) x1 → ∃ k, laws_FnExactList.f k x0.f0 x0.f1 x1 = some true
end Go.Proofs.YtkfcmpalbhmmaaaDoor.AskFnExactList
