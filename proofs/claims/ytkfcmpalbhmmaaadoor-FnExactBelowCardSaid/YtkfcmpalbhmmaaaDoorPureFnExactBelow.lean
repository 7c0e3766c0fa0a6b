/- FnExactBelow returns true for all strings: the program's Below and the reference's answer alike. No condition. -/
import Derived.Test.YtkfcmpalbhmmaaaDoorQbl
import Derived.Test.YtkfcmpalbhmmaaaDoorPx1
namespace Go.Proofs.YtkfcmpalbhmmaaaDoor.Pure
open Go.RowKit Go.Proofs.YtkfcmpalbhmmaaaDoor.P Go.Proofs.YtkfcmpalbhmmaaaDoor.Q Go.Proofs.YtkfcmpalbhmmaaaDoorW.PrintWords Go.Proofs.YtkfcmpalbhmmaaaDoorW.PrintLast Go.Proofs.YtkfcmpalbhmmaaaDoorW.PrintMore

theorem FnExactBelow : laws_FnExactBelow.Pure := by
  intro a b ha hb
  apply Ev.rounds
  unfold laws_FnExactBelow.f
  refine evI' (fun _ => Ev.now _) (fun h => evI' (fun _ => Ev.now _) (fun h' => ?_))
  have h1 : a.size ≤ 1048576 := by omega
  have h2 : b.size ≤ 1048576 := by omega
  exact Ev.bind (spec_below a b h1 h2) (Ev.bind (impl_below a b h1 h2) (evN (by simp) (Ev.now _)))
end Go.Proofs.YtkfcmpalbhmmaaaDoor.Pure
