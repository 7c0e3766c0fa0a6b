/- ParentOf: what the program's and the reference's functions answer, in plain words. No condition. -/
import Derived.Test.YtkfcmpalbhmmaaaDoorQjq
import Derived.Test.YtkfcmpalbhmmaaaDoorPx1
namespace Go.Proofs.YtkfcmpalbhmmaaaDoor.Q
open Go.RowKit Go.Proofs.YtkfcmpalbhmmaaaDoor.P Go.Proofs.YtkfcmpalbhmmaaaDoorW.PrintWords Go.Proofs.YtkfcmpalbhmmaaaDoorW.PrintLast Go.Proofs.YtkfcmpalbhmmaaaDoorW.PrintMore

def parentP (s : ByteArray) : ByteArray × ByteArray × Bool :=
  if (splitP s).2 = true then (if (splitP s).1.length = 0 then (⟨#[]⟩, ⟨#[]⟩, false) else (joinQ ((splitP s).1.take ((splitP s).1.length - 1)), (splitP s).1.getD ((splitP s).1.length - 1) ⟨#[]⟩, true)) else (⟨#[]⟩, ⟨#[]⟩, false)
theorem impl_parent (s : ByteArray) (hs : s.size ≤ 1048576) : Ev (fun k => impl_ParentOf.f k s) (parentP s) := by
  unfold impl_ParentOf.f parentP
  refine Ev.bind (impl_split s hs) ?_
  obtain ⟨h1, h2⟩ := splitP_size s
  generalize splitP s = p at *
  refine evI (fun c => ?_) (fun _ => Ev.now _)
  by_cases c0 : p.1.length = 0
  · exact evP (by omega) (evC (Ev.now _) (by rw [if_pos c0]))
  · have ht := strSz_take p.1 (p.1.length - 1)
    have hw : wrap64 ((p.1.length : Int) - 1) = ((p.1.length - 1 : Nat) : Int) := by rw [w64 (by omega) (by omega)]; omega
    simp only [hw, Int.toNat_natCast]
    refine evN (by omega) (evP (by omega) (evP (by omega) (Ev.bind (impl_joinQ _ (by rw [List.length_take]; omega) (by omega)) (evP (by omega) (evC (Ev.now _) ?_)))))
    rw [if_neg c0]
    rfl
theorem spec_parent (s : ByteArray) (hs : s.size ≤ 1048576) : Ev (fun k => spec_ParentOf.f k s) (parentP s) := by
  unfold spec_ParentOf.f parentP
  refine Ev.bind (spec_split s hs) ?_
  obtain ⟨h1, h2⟩ := splitP_size s
  generalize splitP s = p at *
  refine evI (fun c => ?_) (fun _ => Ev.now _)
  by_cases c0 : p.1.length = 0
  · exact evP (by omega) (evC (Ev.now _) (by rw [if_pos c0]))
  · have ht := strSz_take p.1 (p.1.length - 1)
    have hw : wrap64 ((p.1.length : Int) - 1) = ((p.1.length - 1 : Nat) : Int) := by rw [w64 (by omega) (by omega)]; omega
    simp only [hw, Int.toNat_natCast]
    refine evN (by omega) (evP (by omega) (evP (by omega) (Ev.bind (spec_join _ (by rw [List.length_take]; omega) (by omega)) (evP (by omega) (evC (Ev.now _) ?_)))))
    rw [if_neg c0]
    rfl
end Go.Proofs.YtkfcmpalbhmmaaaDoor.Q
