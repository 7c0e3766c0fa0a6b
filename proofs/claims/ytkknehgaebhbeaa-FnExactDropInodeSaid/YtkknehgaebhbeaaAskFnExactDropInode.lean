/- What is to be proved in plain words of FnExactDropInode. -/
import Derived.Test.YtkknehgaebhbeaaKinds
import Derived.Test.YtkknehgaebhbeaaPx4
namespace Go.Proofs.Ytkknehgaebhbeaa.AskFnExactDropInode
open Go.RowKit Go.Proofs.Ytkknehgaebhbeaa.P Go.Proofs.Ytkknehgaebhbeaa.Op Go.Proofs.YtkknehgaebhbeaaW.PrintWords Go.Proofs.YtkknehgaebhbeaaW.PrintLast Go.Proofs.YtkknehgaebhbeaaW.PrintMore Go.Proofs.Ytkknehgaebhbeaa.Kinds
def Pure : Prop := ∀ (x0 : S50) (x1 : Int), g50 x0 → (fun n : Int => (Lit.int .i64 n).wf = true) x1 → ∃ k, laws_FnExactDropInode.f k x0.f0 x0.f1 x1 = some true
end Go.Proofs.Ytkknehgaebhbeaa.AskFnExactDropInode
