-- Words of the kit's print, trimmed to what this seat's texts use (wip/trim.py). No condition.
import Derived.Test.YtkknehgaebhbeaaWInv
import Derived.Test.YtkknehgaebhbeaaWFootNe
namespace Go.Proofs.YtkknehgaebhbeaaW.PrintWords
open Go.RowKit
end Go.Proofs.YtkknehgaebhbeaaW.PrintWords
namespace Go.Proofs.YtkknehgaebhbeaaW.PrintLast
section
variable {ops : Array Oper} {a : Act} {o og : Oper} {g : Nat} {t : Tmp} {u : Bool}
end
end Go.Proofs.YtkknehgaebhbeaaW.PrintLast
