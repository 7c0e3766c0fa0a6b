/- What is to be proved in plain words of FnExactPathsOf. -/
import Derived.Test.YtolkhimbfegkkaaGreatKinds
import Derived.Test.YtolkhimbfegkkaaGreatPx22
namespace Go.Proofs.YtolkhimbfegkkaaGreat.AskFnExactPathsOf
open Go.RowKit Go.Proofs.YtolkhimbfegkkaaGreat.P Go.Proofs.YtolkhimbfegkkaaGreat.Op Go.Proofs.YtolkhimbfegkkaaGreatW.PrintWords Go.Proofs.YtolkhimbfegkkaaGreatW.PrintLast Go.Proofs.YtolkhimbfegkkaaGreatW.PrintMore Go.Proofs.YtolkhimbfegkkaaGreat.Kinds
def Pure : Prop := ∀ (x0 : S24), g24 x0 → ∃ k, laws_FnExactPathsOf.f k x0.f0 x0.f1 = some true
end Go.Proofs.YtolkhimbfegkkaaGreat.AskFnExactPathsOf
