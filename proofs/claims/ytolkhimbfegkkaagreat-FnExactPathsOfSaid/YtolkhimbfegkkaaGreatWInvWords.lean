-- Words of the kit's print, trimmed to what this seat's texts use (wip/trim.py). No condition.
import Derived.Test.YtolkhimbfegkkaaGreatWInv
import Derived.Test.YtolkhimbfegkkaaGreatWFootNe
namespace Go.Proofs.YtolkhimbfegkkaaGreatW.PrintWords
open Go.RowKit
end Go.Proofs.YtolkhimbfegkkaaGreatW.PrintWords
namespace Go.Proofs.YtolkhimbfegkkaaGreatW.PrintLast
section
variable {ops : Array Oper} {a : Act} {o og : Oper} {g : Nat} {t : Tmp} {u : Bool}
end
end Go.Proofs.YtolkhimbfegkkaaGreatW.PrintLast
