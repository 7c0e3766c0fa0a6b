/- What is to be proved in plain words of FnExactSameTab. -/
import Derived.Test.YtkknehgaebhbeaaKinds
import Derived.Test.YtkknehgaebhbeaaPx6
namespace Go.Proofs.Ytkknehgaebhbeaa.AskFnExactSameTab
open Go.RowKit Go.Proofs.Ytkknehgaebhbeaa.P Go.Proofs.Ytkknehgaebhbeaa.Op Go.Proofs.YtkknehgaebhbeaaW.PrintWords Go.Proofs.YtkknehgaebhbeaaW.PrintLast Go.Proofs.YtkknehgaebhbeaaW.PrintMore Go.Proofs.Ytkknehgaebhbeaa.Kinds
def Pure : Prop := ∀ (x0 : S50) (x1 : S50), g50 x0 → g50 x1 → ∃ k, laws_FnExactSameTab.f k x0.f0 x0.f1 x1.f0 x1.f1 = some true
end Go.Proofs.Ytkknehgaebhbeaa.AskFnExactSameTab
