/- What is to be proved in plain words of FnExactSetInode. -/
import Derived.Test.YtmndnegpclaidaaKinds
import Derived.Test.YtmndnegpclaidaaPx6
namespace Go.Proofs.Ytmndnegpclaidaa.AskFnExactSetInode
open Go.RowKit Go.Proofs.Ytmndnegpclaidaa.P Go.Proofs.Ytmndnegpclaidaa.Op Go.Proofs.YtmndnegpclaidaaW.PrintWords Go.Proofs.YtmndnegpclaidaaW.PrintLast Go.Proofs.YtmndnegpclaidaaW.PrintMore Go.Proofs.Ytmndnegpclaidaa.Kinds
def Pure : Prop := ∀ (x0 : S24) (x1 : S29), g24 x0 → g29 x1 → ∃ k, laws_FnExactSetInode.f k x0.f0 x0.f1 x1.f0 x1.f1 x1.f2 x1.f3 x1.f4 x1.f5 = some true
end Go.Proofs.Ytmndnegpclaidaa.AskFnExactSetInode
