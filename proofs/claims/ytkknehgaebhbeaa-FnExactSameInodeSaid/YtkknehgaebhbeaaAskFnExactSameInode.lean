/- What is to be proved in plain words of FnExactSameInode. -/
import Derived.Test.YtkknehgaebhbeaaKinds
import Derived.Test.YtkknehgaebhbeaaPx5
namespace Go.Proofs.Ytkknehgaebhbeaa.AskFnExactSameInode
open Go.RowKit Go.Proofs.Ytkknehgaebhbeaa.P Go.Proofs.Ytkknehgaebhbeaa.Op Go.Proofs.YtkknehgaebhbeaaW.PrintWords Go.Proofs.YtkknehgaebhbeaaW.PrintLast Go.Proofs.YtkknehgaebhbeaaW.PrintMore Go.Proofs.Ytkknehgaebhbeaa.Kinds
def Pure : Prop := ∀ (x0 : S39) (x1 : S39), g39 x0 → g39 x1 → ∃ k, laws_FnExactSameInode.f k x0.f0 x0.f1 x0.f2 x0.f3 x0.f4 x0.f5 x1.f0 x1.f1 x1.f2 x1.f3 x1.f4 x1.f5 = some true
end Go.Proofs.Ytkknehgaebhbeaa.AskFnExactSameInode
