/- What is to be proved in plain words of FnExactReadFile. -/
import Derived.Test.YtkfcmpalbhmmaaaDoorKinds
import Derived.Test.YtkfcmpalbhmmaaaDoorPx5
namespace Go.Proofs.YtkfcmpalbhmmaaaDoor.AskFnExactReadFile
open Go.RowKit Go.Proofs.YtkfcmpalbhmmaaaDoor.P Go.Proofs.YtkfcmpalbhmmaaaDoor.Op Go.Proofs.YtkfcmpalbhmmaaaDoorW.PrintWords Go.Proofs.YtkfcmpalbhmmaaaDoorW.PrintLast Go.Proofs.YtkfcmpalbhmmaaaDoorW.PrintMore Go.Proofs.YtkfcmpalbhmmaaaDoor.Kinds
def Pure : Prop := ∀ (x0 : S40) (x1 : ByteArray) (x2 : Int) (x3 : Int), g40 x0 → (fun s : ByteArray => s.size ≤ maxLen) x1 → (fun n : Int => (Lit.int .i64 n).wf = true) x2 → (fun n : Int => (Lit.int .i64 n).wf = true) x3 → ∃ k, laws_FnExactReadFile.f k x0.f0 x0.f1 x1 x2 x3 = some true
end Go.Proofs.YtkfcmpalbhmmaaaDoor.AskFnExactReadFile
