-- Words of the kit's print, trimmed to what this seat's texts use (wip/trim.py). No condition.
import Derived.Test.YtkfoopcpihmbmaaGreatDoorWApart
import Derived.Test.YtkfoopcpihmbmaaGreatDoorWArr
namespace Go.Proofs.ab.av
open Go.RowKit
namespace Kd
section
variable {α:Type}{d:Kd α}{e base g n c:Nat}{ok:Nat→Prop}{w w0 W:World}{A:Option Addr}{xs:List α}
theorem uf (h:∀W',aI w W' g none→d.C W' A n xs) (hk:aI w W g none):∀W',aI W W' g none→d.C W' A n xs:=fun W' hk'=>h W' (hk.trans hk' (.inl rfl))
theorem ik (h:∀W',aI w W' g none→d.C W' A n xs) (hk:aI w W g none):d.C W A n xs:=h W hk
end
end Kd
end Go.Proofs.ab.av
