-- Words of the kit's print, trimmed to what this seat's texts use (wip/trim.py). No condition.
import Derived.Test.YtlecajlnjmbilaaGreatDoorWFootNe
namespace Go.Proofs.ab.aq
open Go.RowKit
section
variable {w w' u:World}{m B g:Nat}{o:Obj}{row:Option Nat}{S:Nat→Prop}{a:Addr}{v:Value}
theorem uL (hq:w.drewN m=w') (h:Below B u w):Below B u w':=by subst hq;exact aJ h m
theorem nW (hq:w.drewN m=w') (h:w.heap[g]? =some o):w'.heap[g]? =some o:=by subst hq;exact h
end
namespace Kd
section
variable {α:Type}{d:Kd α}{e base n m:Nat}{ok:Nat→Prop}{w w':World}{v:Value}{A:Option Addr}{xs:List α}
theorem xY (hq:w.drewN m=w') (h:d.R e w base ok v xs):d.R e w' base ok v xs:=by subst hq;exact cd h m
theorem ad7 (hq:w.drewN m=w') (h:Kd.S d e w base ok v xs):Kd.S d e w' base ok v xs:=by subst hq;exact cW h m
end
end Kd
end Go.Proofs.ab.aq
