/- What is to be proved in plain words of FnExactTabOk. -/
import Derived.Test.YtkknehgaebhbeaaKinds
import Derived.Test.YtkknehgaebhbeaaPx7
namespace Go.Proofs.Ytkknehgaebhbeaa.AskFnExactTabOk
open Go.RowKit Go.Proofs.Ytkknehgaebhbeaa.P Go.Proofs.Ytkknehgaebhbeaa.Op Go.Proofs.YtkknehgaebhbeaaW.PrintWords Go.Proofs.YtkknehgaebhbeaaW.PrintLast Go.Proofs.YtkknehgaebhbeaaW.PrintMore Go.Proofs.Ytkknehgaebhbeaa.Kinds
def Pure : Prop := ∀ (x0 : S50), g50 x0 → ∃ k, laws_FnExactTabOk.f k x0.f0 x0.f1 = some true
end Go.Proofs.Ytkknehgaebhbeaa.AskFnExactTabOk
