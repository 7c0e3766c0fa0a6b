/- Stat: what the program's and the reference's functions answer, in plain words. No condition. -/
import Derived.Test.YtkfcmpalbhmmaaaDoorQwk
import Derived.Test.YtkfcmpalbhmmaaaDoorQic
import Derived.Test.YtkfcmpalbhmmaaaDoorPx0
import Derived.Test.YtkfcmpalbhmmaaaDoorPx3
import Derived.Test.YtkfcmpalbhmmaaaDoorPx4
namespace Go.Proofs.YtkfcmpalbhmmaaaDoor.Q
open Go.RowKit Go.Proofs.YtkfcmpalbhmmaaaDoor.P Go.Proofs.YtkfcmpalbhmmaaaDoorW.PrintWords Go.Proofs.YtkfcmpalbhmmaaaDoorW.PrintLast Go.Proofs.YtkfcmpalbhmmaaaDoorW.PrintMore

def ino0 : S64 := ⟨0, 0, 0, [], [], []⟩
/-- The inode of a path, and a code. -/
def statP (T : List S64) (s : ByteArray) : S64 × Int :=
  if (walkP T s).2 = 0 then (if isAt T (walkP T s).1 = true then (inoAt T (walkP T s).1, 0) else (ino0, 2)) else (ino0, (walkP T s).2)
def tup (p : S64 × Int) : Int × Int × Int × List Int × List S91 × List S87 × Int := (p.1.f0, p.1.f1, p.1.f2, p.1.f3, p.1.f4, p.1.f5, p.2)
theorem statP_small (T : List S64) (s : ByteArray) (hs : ∀ x ∈ T, InoA x) : InoA (statP T s).1 := by
  unfold statP
  split
  · split
    · exact inoAt_small T _ hs
    · exact ⟨by simp [ino0], by simp [ino0], by simp [ino0]⟩
  · exact ⟨by simp [ino0], by simp [ino0], by simp [ino0]⟩
theorem impl_stat (T : List S64) (nx : Int) (s : ByteArray) (hT : T.length ≤ 1048576) (hs : ∀ x ∈ T, InoA x) (h : s.size ≤ 1048576) : Ev (fun k => impl_Stat.f k T nx s) (tup (statP T s)) := by
  unfold impl_Stat.f
  refine Ev.bind (impl_walk T nx s hT hs h) ?_
  by_cases c : (walkP T s).2 = 0
  · refine evP c (Ev.bind (impl_inodeAt T nx _ hT hs) ?_)
    by_cases d : isAt T (walkP T s).1 = true
    · exact evP d (evC (Ev.now _) (by simp only [statP, tup, if_pos c, if_pos d]))
    · exact evN d (evC (Ev.now _) (by simp only [statP, tup, if_pos c, if_neg d]; rfl))
  · exact evN c (evC (Ev.now _) (by simp only [statP, tup, if_neg c]; rfl))
theorem spec_stat (T : List S64) (nx : Int) (s : ByteArray) (hT : T.length ≤ 1048576) (hs : ∀ x ∈ T, InoA x) (h : s.size ≤ 1048576) : Ev (fun k => spec_Stat.f k T nx s) (tup (statP T s)) := by
  unfold spec_Stat.f
  refine Ev.bind (spec_walk T nx s hT hs h) ?_
  by_cases c : (walkP T s).2 = 0
  · refine evP c (Ev.bind (spec_inodeAt T nx _ hT hs) ?_)
    by_cases d : isAt T (walkP T s).1 = true
    · exact evP d (evC (Ev.now _) (by simp only [statP, tup, if_pos c, if_pos d]))
    · exact evN d (evC (Ev.now _) (by simp only [statP, tup, if_pos c, if_neg d]; rfl))
  · exact evN c (evC (Ev.now _) (by simp only [statP, tup, if_neg c]; rfl))
end Go.Proofs.YtkfcmpalbhmmaaaDoor.Q
