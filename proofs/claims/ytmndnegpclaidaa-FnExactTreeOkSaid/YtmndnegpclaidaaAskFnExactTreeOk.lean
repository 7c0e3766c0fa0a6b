/- What is to be proved in plain words of FnExactTreeOk. -/
import Derived.Test.YtmndnegpclaidaaKinds
import Derived.Test.YtmndnegpclaidaaPx8
namespace Go.Proofs.Ytmndnegpclaidaa.AskFnExactTreeOk
open Go.RowKit Go.Proofs.Ytmndnegpclaidaa.P Go.Proofs.Ytmndnegpclaidaa.Op Go.Proofs.YtmndnegpclaidaaW.PrintWords Go.Proofs.YtmndnegpclaidaaW.PrintLast Go.Proofs.YtmndnegpclaidaaW.PrintMore Go.Proofs.Ytmndnegpclaidaa.Kinds
def Pure : Prop := ∀ (x0 : S24), g24 x0 → ∃ k, laws_FnExactTreeOk.f k x0.f0 x0.f1 = some true
end Go.Proofs.Ytmndnegpclaidaa.AskFnExactTreeOk
