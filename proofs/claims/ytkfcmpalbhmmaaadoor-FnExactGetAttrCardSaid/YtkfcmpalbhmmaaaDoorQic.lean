/- InodeAt: what the reference's function answers. No condition. -/
import Derived.Test.YtkfcmpalbhmmaaaDoorQib
import Derived.Test.YtkfcmpalbhmmaaaDoorQcq
import Derived.Test.YtkfcmpalbhmmaaaDoorPx0
import Derived.Test.YtkfcmpalbhmmaaaDoorPx3
namespace Go.Proofs.YtkfcmpalbhmmaaaDoor.Q
open Go.RowKit Go.Proofs.YtkfcmpalbhmmaaaDoor.P Go.Proofs.YtkfcmpalbhmmaaaDoorW.PrintWords Go.Proofs.YtkfcmpalbhmmaaaDoorW.PrintLast Go.Proofs.YtkfcmpalbhmmaaaDoorW.PrintMore

theorem spec_inodeAt (l : List S64) (nx ino : Int) (hl : l.length ≤ 1048576) (hs : ∀ x ∈ l, InoA x) :
    Ev (fun k => spec_InodeAt.f k l nx ino) ((inoAt l ino).f0, (inoAt l ino).f1, (inoAt l ino).f2, (inoAt l ino).f3, (inoAt l ino).f4, (inoAt l ino).f5, isAt l ino) := by
  have hc := inoAt_small l ino hs
  have hr := place_range ino l 0
  unfold spec_InodeAt.f
  refine Ev.bind (spec_at l nx ino hl) ?_
  by_cases c : placeR ino l 0 < 0
  · refine evP c (evC (Ev.now _) ?_)
    simp only [inoAt, isAt, if_pos c, show decide (0 ≤ placeR ino l 0) = false from decide_eq_false (by omega)]
  · have hi : inoAt l ino = rd_T64 l (placeR ino l 0) := by simp only [inoAt, if_neg c]
    rw [hi] at hc ⊢
    refine evN c (evP (by omega) (evP (by omega) ?_))
    simp only [l3_copy _ hc, Option.bind_some]
    refine evC (Ev.now _) ?_
    simp only [isAt, show decide (0 ≤ placeR ino l 0) = true from decide_eq_true (by omega)]
end Go.Proofs.YtkfcmpalbhmmaaaDoor.Q
