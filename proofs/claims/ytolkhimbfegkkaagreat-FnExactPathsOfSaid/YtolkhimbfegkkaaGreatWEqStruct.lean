-- Words of the kit's print, trimmed to what this seat's texts use (wip/trim.py). No condition.
import Derived.Test.YtolkhimbfegkkaaGreatWWords
import Derived.Laws.StructEq
namespace Go.Proofs.YtolkhimbfegkkaaGreatW.PrintWords
open Go.RowKit
section
variable {P : Program} {d : Nat} {xs ys : Array Value} {f : Field} {fs : List Field} {a b : Value} {r s : Bool} {w : World}
end
end Go.Proofs.YtolkhimbfegkkaaGreatW.PrintWords
