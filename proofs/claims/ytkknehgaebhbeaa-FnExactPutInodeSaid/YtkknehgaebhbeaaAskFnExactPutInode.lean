/- What is to be proved in plain words of FnExactPutInode. -/
import Derived.Test.YtkknehgaebhbeaaKinds
import Derived.Test.YtkknehgaebhbeaaPx10
namespace Go.Proofs.Ytkknehgaebhbeaa.AskFnExactPutInode
open Go.RowKit Go.Proofs.Ytkknehgaebhbeaa.P Go.Proofs.Ytkknehgaebhbeaa.Op Go.Proofs.YtkknehgaebhbeaaW.PrintWords Go.Proofs.YtkknehgaebhbeaaW.PrintLast Go.Proofs.YtkknehgaebhbeaaW.PrintMore Go.Proofs.Ytkknehgaebhbeaa.Kinds
def Pure : Prop := ∀ (x0 : S39), g39 x0 → ∃ k, laws_FnExactPutInode.f k x0.f0 x0.f1 x0.f2 x0.f3 x0.f4 x0.f5 = some true
end Go.Proofs.Ytkknehgaebhbeaa.AskFnExactPutInode
