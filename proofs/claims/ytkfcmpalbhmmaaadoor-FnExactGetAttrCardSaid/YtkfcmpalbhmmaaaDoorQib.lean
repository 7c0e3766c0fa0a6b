/- InodeAt: both functions answer the inode at its place, copied. No condition. -/
import Derived.Test.YtkfcmpalbhmmaaaDoorQia
import Derived.Test.YtkfcmpalbhmmaaaDoorPx0
import Derived.Test.YtkfcmpalbhmmaaaDoorPx3
import Derived.Test.YtkfcmpalbhmmaaaDoorPx4
namespace Go.Proofs.YtkfcmpalbhmmaaaDoor.Q
open Go.RowKit Go.Proofs.YtkfcmpalbhmmaaaDoor.P Go.Proofs.YtkfcmpalbhmmaaaDoorW.PrintWords Go.Proofs.YtkfcmpalbhmmaaaDoorW.PrintLast Go.Proofs.YtkfcmpalbhmmaaaDoorW.PrintMore

/-- The inode with this number, or an empty one; whether there is one. -/
def inoAt (l : List S64) (ino : Int) : S64 := if placeR ino l 0 < 0 then ⟨0, 0, 0, [], [], []⟩ else rd_T64 l (placeR ino l 0)
def isAt (l : List S64) (ino : Int) : Bool := decide (0 ≤ placeR ino l 0)
theorem inoAt_small (l : List S64) (ino : Int) (hs : ∀ x ∈ l, InoA x) : InoA (inoAt l ino) := by
  unfold inoAt
  split
  · exact ⟨by simp, by simp, by simp⟩
  · rcases place_range ino l 0 with h | h
    · omega
    · obtain ⟨n, hn⟩ : ∃ n : Nat, placeR ino l 0 = n := ⟨(placeR ino l 0).toNat, by omega⟩
      rw [hn] at h ⊢
      have hlt : n < l.length := by omega
      have hrd : rd_T64 l (n : Int) = l[n] := getD_at l _ n hlt
      rw [hrd]
      exact hs _ (List.getElem_mem hlt)
theorem impl_inodeAt (l : List S64) (nx ino : Int) (hl : l.length ≤ 1048576) (hs : ∀ x ∈ l, InoA x) :
    Ev (fun k => impl_InodeAt.f k l nx ino) ((inoAt l ino).f0, (inoAt l ino).f1, (inoAt l ino).f2, (inoAt l ino).f3, (inoAt l ino).f4, (inoAt l ino).f5, isAt l ino) := by
  have hc := inoAt_small l ino hs
  have hr := place_range ino l 0
  unfold impl_InodeAt.f impl_placeOf.f
  refine Ev.bind (evP (by omega) (Ev.now _)) ?_
  by_cases c : placeR ino l 0 < 0
  · refine evP c (evC (Ev.now _) ?_)
    simp only [inoAt, isAt, if_pos c, show decide (0 ≤ placeR ino l 0) = false from decide_eq_false (by omega)]
  · have hi : inoAt l ino = rd_T64 l (placeR ino l 0) := by simp only [inoAt, if_neg c]
    rw [hi] at hc ⊢
    refine evN c (evP (by omega) (evP (by omega) ?_))
    simp only [copy_ino _ hc, Option.bind_some]
    refine evC (Ev.now _) ?_
    simp only [isAt, show decide (0 ≤ placeR ino l 0) = true from decide_eq_true (by omega)]
end Go.Proofs.YtkfcmpalbhmmaaaDoor.Q
