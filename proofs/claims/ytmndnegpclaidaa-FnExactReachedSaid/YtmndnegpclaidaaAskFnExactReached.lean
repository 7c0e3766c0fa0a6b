/- What is to be proved in plain words of FnExactReached. -/
import Derived.Test.YtmndnegpclaidaaKinds
import Derived.Test.YtmndnegpclaidaaPx4
namespace Go.Proofs.Ytmndnegpclaidaa.AskFnExactReached
open Go.RowKit Go.Proofs.Ytmndnegpclaidaa.P Go.Proofs.Ytmndnegpclaidaa.Op Go.Proofs.YtmndnegpclaidaaW.PrintWords Go.Proofs.YtmndnegpclaidaaW.PrintLast Go.Proofs.YtmndnegpclaidaaW.PrintMore Go.Proofs.Ytmndnegpclaidaa.Kinds
def Pure : Prop := ∀ (x0 : S24), g24 x0 → ∃ k, laws_FnExactReached.f k x0.f0 x0.f1 = some true
end Go.Proofs.Ytmndnegpclaidaa.AskFnExactReached
