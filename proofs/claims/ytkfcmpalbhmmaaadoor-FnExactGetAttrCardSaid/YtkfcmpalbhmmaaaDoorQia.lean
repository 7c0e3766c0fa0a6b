/- InodeAt: what the program's and the reference's functions answer, in plain words. No condition. -/
import Derived.Test.YtkfcmpalbhmmaaaDoorQcp
import Derived.Test.YtkfcmpalbhmmaaaDoorPx0
import Derived.Test.YtkfcmpalbhmmaaaDoorPx2
import Derived.Test.YtkfcmpalbhmmaaaDoorPx3
namespace Go.Proofs.YtkfcmpalbhmmaaaDoor.Q
open Go.RowKit Go.Proofs.YtkfcmpalbhmmaaaDoor.P Go.Proofs.YtkfcmpalbhmmaaaDoorW.PrintWords Go.Proofs.YtkfcmpalbhmmaaaDoorW.PrintLast Go.Proofs.YtkfcmpalbhmmaaaDoorW.PrintMore

theorem place_range (ino : Int) (l : List S64) : ∀ i : Nat, placeR ino l i = -1 ∨ ((i : Int) ≤ placeR ino l i ∧ placeR ino l i < i + l.length) := by
  induction l with
  | nil => intro i; exact .inl rfl
  | cons x l ih =>
    intro i
    rw [placeR]
    split
    · right; simp only [List.length_cons]; omega
    · rcases ih (i + 1) with h | h
      · exact .inl h
      · right; simp only [List.length_cons]; omega
theorem spec_at (l : List S64) (nx ino : Int) (hl : l.length ≤ 1048576) : Ev (fun k => spec_l4At.f k l nx ino) (placeR ino l 0) := by
  have key := down (n := l.length) (P := fun i => Ev (fun k => spec_l4At.l0 k ino (i : Nat) l nx) (placeR ino (l.drop i) i)) (by
      apply evPre
      simp only [spec_l4At.l0]
      refine evN (by omega) (evC (Ev.now _) ?_)
      rw [List.drop_length]; rfl) (fun i hi h => by
      have hrd : rd_T64 l (i : Int) = l[i] := getD_at l _ i hi
      apply evPre
      simp only [spec_l4At.l0, hrd]
      rw [nxt i l.length hi (by omega), List.drop_eq_getElem_cons hi, placeR]
      refine evP (by omega) (evP (by omega) ?_)
      by_cases c : l[i].f0 = ino
      · exact evP c (evC (Ev.now _) (by rw [if_pos c]))
      · exact evN c (evC h (by rw [if_neg c])))
  simpa [spec_l4At.f] using key
end Go.Proofs.YtkfcmpalbhmmaaaDoor.Q
