/- FnExactTabNew returns true: the program's TabNew and the reference's answer alike, each call with rows of its own. No condition. -/
import Derived.Test.YtkknehgaebhbeaaAskFnExactTabNew
import Derived.Test.YtkknehgaebhbeaaPx0
namespace Go.Proofs.Ytkknehgaebhbeaa.Pure
open Go.RowKit Go.Proofs.Ytkknehgaebhbeaa.P Go.Proofs.Ytkknehgaebhbeaa.Kinds Go.Proofs.YtkknehgaebhbeaaW.PrintWords Go.Proofs.YtkknehgaebhbeaaW.PrintLast Go.Proofs.YtkknehgaebhbeaaW.PrintMore

theorem FnExactTabNew : AskFnExactTabNew.Pure := ⟨10, by decide +kernel⟩

end Go.Proofs.Ytkknehgaebhbeaa.Pure
