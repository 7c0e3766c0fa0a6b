/- FnExactParentOf returns true for every string: the program's ParentOf and the reference's answer alike. No condition. -/
import Derived.Test.YtkfcmpalbhmmaaaDoorQpo
import Derived.Test.YtkfcmpalbhmmaaaDoorPx1
namespace Go.Proofs.YtkfcmpalbhmmaaaDoor.Pure
open Go.RowKit Go.Proofs.YtkfcmpalbhmmaaaDoor.P Go.Proofs.YtkfcmpalbhmmaaaDoor.Q Go.Proofs.YtkfcmpalbhmmaaaDoorW.PrintWords Go.Proofs.YtkfcmpalbhmmaaaDoorW.PrintLast Go.Proofs.YtkfcmpalbhmmaaaDoorW.PrintMore

theorem FnExactParentOf : laws_FnExactParentOf.Pure := by
  intro s hs
  apply Ev.rounds
  unfold laws_FnExactParentOf.f
  refine evI' (fun _ => Ev.now _) (fun h => ?_)
  have h1 : s.size ≤ 1048576 := by omega
  refine Ev.bind (spec_parent s h1) (Ev.bind (impl_parent s h1) ?_)
  exact evP rfl (evP rfl (evN (by simp) (Ev.now _)))
end Go.Proofs.YtkfcmpalbhmmaaaDoor.Pure
