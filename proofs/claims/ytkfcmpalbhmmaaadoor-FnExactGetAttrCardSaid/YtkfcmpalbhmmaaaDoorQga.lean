/- GetAttr: what the program's and the reference's functions answer, in plain words. No condition. -/
import Derived.Test.YtkfcmpalbhmmaaaDoorQsa
import Derived.Test.YtkfcmpalbhmmaaaDoorPx0
import Derived.Test.YtkfcmpalbhmmaaaDoorPx3
import Derived.Test.YtkfcmpalbhmmaaaDoorPx4
namespace Go.Proofs.YtkfcmpalbhmmaaaDoor.Q
open Go.RowKit Go.Proofs.YtkfcmpalbhmmaaaDoor.P Go.Proofs.YtkfcmpalbhmmaaaDoorW.PrintWords Go.Proofs.YtkfcmpalbhmmaaaDoorW.PrintLast Go.Proofs.YtkfcmpalbhmmaaaDoorW.PrintMore

def attrOf (name : ByteArray) : List S87 → ByteArray × Int
  | [] => (⟨#[]⟩, 2)
  | x :: l => if x.f0.toList = name.toList then (x.f1, 0) else attrOf name l
def getAttrP (T : List S64) (s name : ByteArray) : ByteArray × Int := if (statP T s).2 = 0 then attrOf name (statP T s).1.f5 else (⟨#[]⟩, (statP T s).2)
theorem impl_getAttr (T : List S64) (nx : Int) (s name : ByteArray) (hT : T.length ≤ 1048576) (hs : ∀ x ∈ T, InoA x) (h : s.size ≤ 1048576) : Ev (fun k => impl_GetAttr.f k T nx s name) (getAttrP T s name) := by
  unfold impl_GetAttr.f getAttrP
  have hx := (statP_small T s hs).t
  refine Ev.bind (impl_stat T nx s hT hs h) ?_
  refine evI (fun _ => ?_) (fun _ => Ev.now _)
  have key := ev_fold (fun k i => impl_GetAttr.l0 k name (statP T s).1.f5 (statP T s).1.f5.length i) (statP T s).1.f5 (attrOf name) (by
      apply evPre
      simp only [impl_GetAttr.l0]
      exact evN (by omega) (Ev.now _)) (fun i hi ih => by
      have hr : rd_T87 (statP T s).1.f5 (i : Int) = (statP T s).1.f5[i] := getD_at _ _ i hi
      apply evPre
      simp only [impl_GetAttr.l0, attrOf]
      rw [nxt i _ hi (by omega), hr]
      exact evP (by omega) (evP (by omega) (evP (by omega) (evI (fun _ => Ev.now _) (fun _ => ih)))))
  exact key
theorem spec_getAttr (T : List S64) (nx : Int) (s name : ByteArray) (hT : T.length ≤ 1048576) (hs : ∀ x ∈ T, InoA x) (h : s.size ≤ 1048576) : Ev (fun k => spec_GetAttr.f k T nx s name) (getAttrP T s name) := by
  unfold spec_GetAttr.f getAttrP
  have hx := (statP_small T s hs).t
  refine Ev.bind (spec_stat T nx s hT hs h) ?_
  refine evI (fun _ => ?_) (fun _ => Ev.now _)
  have key := ev_fold (fun k i => spec_GetAttr.l0 k name i (statP T s).1.f0 (statP T s).1.f1 (statP T s).1.f2 (statP T s).1.f3 (statP T s).1.f4 (statP T s).1.f5) (statP T s).1.f5 (attrOf name) (by
      apply evPre
      simp only [spec_GetAttr.l0]
      exact evN (by omega) (Ev.now _)) (fun i hi ih => by
      have hr : rd_T87 (statP T s).1.f5 (i : Int) = (statP T s).1.f5[i] := getD_at _ _ i hi
      apply evPre
      simp only [spec_GetAttr.l0, attrOf]
      rw [nxt i _ hi (by omega), hr]
      exact evP (by omega) (evP (by omega) (evI (fun _ => Ev.now _) (fun _ => ih))))
  exact key
end Go.Proofs.YtkfcmpalbhmmaaaDoor.Q
