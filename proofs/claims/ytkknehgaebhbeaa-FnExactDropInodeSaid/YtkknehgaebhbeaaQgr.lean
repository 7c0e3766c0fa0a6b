/- Rows of inodes that come of a small table: their sizes, their marks. No condition. -/
import Derived.Test.YtkknehgaebhbeaaQmh
import Derived.Test.YtkknehgaebhbeaaQcp
import Derived.Test.YtkknehgaebhbeaaQg2
import Derived.Test.YtkknehgaebhbeaaPx0
namespace Go.Proofs.Ytkknehgaebhbeaa.Q
open Go.RowKit Go.Proofs.Ytkknehgaebhbeaa.P Go.Proofs.YtkknehgaebhbeaaW.PrintWords Go.Proofs.YtkknehgaebhbeaaW.PrintLast Go.Proofs.YtkknehgaebhbeaaW.PrintMore

theorem inoA_of (l : List S39) (h : ∀ x ∈ l, InoS x) : ∀ x ∈ l.map iInode, InoA x := fun x hx => by
  obtain ⟨h3, h4, h5⟩ := small_map l h x hx
  exact ⟨h3, h4, h5⟩
theorem rowsW_of (l : List S39) : rowsW (l.map iInode) ≤ 3 * tabSz l := by
  unfold rowsW tabSz
  induction l with
  | nil => simp
  | cons x l ih =>
    simp only [List.map_cons, List.sum_cons, List.length_cons]
    have : rowW (iInode x) ≤ 3 + 3 * inoSz x := by
      unfold rowW inW inoSz inodeSz iInode
      simp only [List.length_map]
      omega
    omega
theorem rowsW_filter (p : S45 → Bool) (l : List S45) : rowsW (l.filter p) ≤ rowsW l := by
  unfold rowsW
  induction l with
  | nil => simp
  | cons x l ih =>
    rw [List.filter_cons]
    split
    · simp only [List.map_cons, List.sum_cons]; omega
    · simp only [List.map_cons, List.sum_cons]; omega
theorem inoA_bound {l : List S45} (h : ∀ x ∈ l, InoA x) : ∀ x ∈ l, x.f3.length ≤ 9223372036854775807 ∧ x.f4.length ≤ 9223372036854775807 ∧ x.f5.length ≤ 9223372036854775807 := fun x hx => by
  have a := (h x hx).d; have b := (h x hx).e; have c := (h x hx).t
  omega
end Go.Proofs.Ytkknehgaebhbeaa.Q
