/- EntOf: what the program's and the reference's functions answer. No condition. -/
import Derived.Test.YtkfcmpalbhmmaaaDoorQi
import Derived.Test.YtkfcmpalbhmmaaaDoorPx0
import Derived.Test.YtkfcmpalbhmmaaaDoorPx2
import Derived.Test.YtkfcmpalbhmmaaaDoorPx4
namespace Go.Proofs.YtkfcmpalbhmmaaaDoor.Q
open Go.RowKit Go.Proofs.YtkfcmpalbhmmaaaDoor.P Go.Proofs.YtkfcmpalbhmmaaaDoorW.PrintWords Go.Proofs.YtkfcmpalbhmmaaaDoorW.PrintLast Go.Proofs.YtkfcmpalbhmmaaaDoorW.PrintMore

def entOf (name : ByteArray) : List S91 → Int
  | [] => 0
  | e :: l => if e.f0.toList = name.toList then e.f1 else entOf name l
theorem spec_entOf (a b c : Int) (d : List Int) (e : List S91) (t : List S87) (name : ByteArray) (he : e.length ≤ 9223372036854775807) : Ev (fun k => spec_EntOf.f k a b c d e t name) (entOf name e) := by
  unfold spec_EntOf.f
  refine ev_fold (fun k i => spec_EntOf.l0 k name i a b c d e t) e (entOf name) ?_ (fun i hi h => ?_)
  · apply evPre
    simp only [spec_EntOf.l0]
    exact evN (by omega) (Ev.now _)
  · apply evPre
    simp only [spec_EntOf.l0, rd_T91, getD_at e _ i hi, entOf]
    refine evP (by omega) (evP (by omega) ?_)
    rw [nxt i e.length hi he]
    exact evI (fun _ => Ev.now _) (fun _ => h)
theorem impl_entOf (a b c : Int) (d : List Int) (e : List S91) (t : List S87) (name : ByteArray) (he : e.length ≤ 9223372036854775807) : Ev (fun k => impl_EntOf.f k a b c d e t name) (entOf name e) := by
  unfold impl_EntOf.f
  refine ev_fold (fun k i => impl_EntOf.l0 k name e (e.length : Int) i) e (entOf name) ?_ (fun i hi h => ?_)
  · apply evPre
    simp only [impl_EntOf.l0]
    exact evN (by omega) (Ev.now _)
  · apply evPre
    simp only [impl_EntOf.l0, rd_T91, getD_at e _ i hi, entOf]
    refine evP (by omega) (evP (by omega) (evP (by omega) ?_))
    rw [nxt i e.length hi he]
    exact evI (fun _ => Ev.now _) (fun _ => h)
end Go.Proofs.YtkfcmpalbhmmaaaDoor.Q
