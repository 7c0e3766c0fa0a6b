/- What is to be proved in plain words of FnExactUsageOf. -/
import Derived.Test.YtkknehgaebhbeaaKinds
import Derived.Test.YtkknehgaebhbeaaPx6
namespace Go.Proofs.Ytkknehgaebhbeaa.AskFnExactUsageOf
open Go.RowKit Go.Proofs.Ytkknehgaebhbeaa.P Go.Proofs.Ytkknehgaebhbeaa.Op Go.Proofs.YtkknehgaebhbeaaW.PrintWords Go.Proofs.YtkknehgaebhbeaaW.PrintLast Go.Proofs.YtkknehgaebhbeaaW.PrintMore Go.Proofs.Ytkknehgaebhbeaa.Kinds
def Pure : Prop := ∀ (x0 : S50), g50 x0 → ∃ k, laws_FnExactUsageOf.f k x0.f0 x0.f1 = some true
end Go.Proofs.Ytkknehgaebhbeaa.AskFnExactUsageOf
