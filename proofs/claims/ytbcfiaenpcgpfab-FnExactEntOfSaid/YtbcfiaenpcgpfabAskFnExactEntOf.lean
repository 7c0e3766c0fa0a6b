/- What is to be proved in plain words of FnExactEntOf. -/
import Derived.Test.YtbcfiaenpcgpfabKinds
import Derived.Test.YtbcfiaenpcgpfabPx8
namespace Go.Proofs.Ytbcfiaenpcgpfab.AskFnExactEntOf
open Go.RowKit Go.Proofs.Ytbcfiaenpcgpfab.P Go.Proofs.Ytbcfiaenpcgpfab.Op Go.Proofs.YtbcfiaenpcgpfabW.PrintWords Go.Proofs.YtbcfiaenpcgpfabW.PrintLast Go.Proofs.YtbcfiaenpcgpfabW.PrintMore Go.Proofs.Ytbcfiaenpcgpfab.Kinds
def Pure : Prop := ∀ (x0 : S48) (x1 : ByteArray), g48 x0 → (fun s : ByteArray => s.size ≤ maxLen) x1 → ∃ k, laws_FnExactEntOf.f k x0.f0 x0.f1 x0.f2 x0.f3 x0.f4 x0.f5 x1 = some true
end Go.Proofs.Ytbcfiaenpcgpfab.AskFnExactEntOf
