/- What is to be proved in plain words of FnExactJoinPath. -/
import Derived.Test.YtkknehgaebhbeaaKinds
import Derived.Test.YtkknehgaebhbeaaPx1
namespace Go.Proofs.Ytkknehgaebhbeaa.AskFnExactJoinPath
open Go.RowKit Go.Proofs.Ytkknehgaebhbeaa.P Go.Proofs.Ytkknehgaebhbeaa.Op Go.Proofs.YtkknehgaebhbeaaW.PrintWords Go.Proofs.YtkknehgaebhbeaaW.PrintLast Go.Proofs.YtkknehgaebhbeaaW.PrintMore Go.Proofs.Ytkknehgaebhbeaa.Kinds
def Pure : Prop := ∀ (x0 : List ByteArray), (fun l : List ByteArray => l.length ≤ maxLen ∧ ∀ x ∈ l, (fun s : ByteArray => s.size ≤ maxLen) x) x0 → ∃ k, laws_FnExactJoinPath.f k x0 = some true
end Go.Proofs.Ytkknehgaebhbeaa.AskFnExactJoinPath
