-- Words of the kit's print, trimmed to what this seat's texts use (wip/trim.py). No condition.
import Derived.Test.YtkcfmbggdkkfeaaGreatDoorWInv
import Derived.Test.YtkcfmbggdkkfeaaGreatDoorWFootNe
namespace Go.Proofs.YtkcfmbggdkkfeaaGreatDoorW.PrintWords
open Go.RowKit
end Go.Proofs.YtkcfmbggdkkfeaaGreatDoorW.PrintWords
namespace Go.Proofs.YtkcfmbggdkkfeaaGreatDoorW.PrintLast
section
variable {ops : Array Oper} {a : Act} {o og : Oper} {g : Nat} {t : Tmp} {u : Bool}
end
end Go.Proofs.YtkcfmbggdkkfeaaGreatDoorW.PrintLast
