-- Words of the kit's print, trimmed to what this seat's texts use (wip/trim.py). No condition.
import Derived.Test.YtolkhimbfegkkaaGreatWN
namespace Go.Proofs.YtolkhimbfegkkaaGreatW.PrintWords
open Go.RowKit
namespace Kd
section
variable {α : Type} {d : Kd α} {W : World} {g n : Nat} {S ok : Nat → Prop} {A : Option Addr} {ad : Addr} {xs : List α}
end
end Kd
end Go.Proofs.YtolkhimbfegkkaaGreatW.PrintWords
