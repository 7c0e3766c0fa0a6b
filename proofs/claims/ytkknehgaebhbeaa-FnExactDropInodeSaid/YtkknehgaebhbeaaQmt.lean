/- Tables marked, and the marks held. No condition. -/
import Derived.Test.YtkknehgaebhbeaaQm
import Derived.Test.YtkknehgaebhbeaaPx0
import Derived.Test.YtkknehgaebhbeaaPx1
namespace Go.Proofs.Ytkknehgaebhbeaa.Q
open Go.RowKit Go.Proofs.Ytkknehgaebhbeaa.P Go.Proofs.YtkknehgaebhbeaaW.PrintWords Go.Proofs.YtkknehgaebhbeaaW.PrintLast Go.Proofs.YtkknehgaebhbeaaW.PrintMore

def rowW (x : S45) : Nat := 3 + inW x.f3 x.f4 x.f5
def rowsW (l : List S45) : Nat := (l.map rowW).sum
/-- A table's inodes hold the marks from a on. -/
def HeldT : Int → List S45 → Prop
  | _, [] => True
  | a, x :: l => (x.f0 = a ∧ x.f1 = a + 1 ∧ x.f2 = a + 2 ∧ HeldX (a + 3) x.f3 x.f4 x.f5) ∧ HeldT (a + rowW x) l
theorem markRows (l : List S45) : ∀ (x : Int), 1 ≤ x → x + rowsW l ≤ 4611686018427387904 → ∃ r, Ev (fun k => markR k l x) (x + rowsW l, r) ∧ r.length = l.length ∧ rowsW r = rowsW l ∧ HeldT x r := by
  induction l with
  | nil => intro x _ _; exact ⟨[], evC (Ev.now _) (by simp [rowsW]), rfl, rfl, trivial⟩
  | cons y l ih =>
    intro x h0 h1
    have hw : rowsW (y :: l) = rowW y + rowsW l := by simp [rowsW]
    rw [hw] at h1 ⊢
    obtain ⟨r, hr, hl, hW, hh⟩ := ih (x + rowW y) (by omega) (by omega)
    have hy : rowW y = 3 + (y.f3.length + 2 * y.f4.length + 2 * y.f5.length) := rfl
    have g1 := markByteS_ev y.f3 (x + 1 + 1 + 1) (by omega) (by omega)
    obtain ⟨e', g2, l2, v2⟩ := markEntS y.f4 (x + 1 + 1 + 1 + y.f3.length) (by omega) (by omega)
    obtain ⟨t', g3, l3, v3⟩ := markAttrS y.f5 (x + 1 + 1 + 1 + y.f3.length + 2 * y.f4.length) (by omega) (by omega)
    have hz : rowW ⟨x, x + 1, x + 1 + 1, marks y.f3.length (x + 1 + 1 + 1), e', t'⟩ = rowW y := by
      simp only [rowW, inW, marks_length, l2, l3]
    refine ⟨⟨x, x + 1, x + 1 + 1, marks y.f3.length (x + 1 + 1 + 1), e', t'⟩ :: r, ?_, by simp [hl], by simp only [rowsW, List.map_cons, List.sum_cons, hz] at hW ⊢; omega, ⟨rfl, rfl, by dsimp only; omega, ?_⟩, by rw [hz]; exact hh⟩
    · simp only [markR, markOne]
      rw [w64 (n := x + 1) (by omega) (by omega), w64 (n := x + 1 + 1) (by omega) (by omega), w64 (n := x + 1 + 1 + 1) (by omega) (by omega)]
      refine Ev.bind (Ev.bind g1 (Ev.bind g2 (Ev.bind g3 (Ev.now _)))) ?_
      rw [show x + 1 + 1 + 1 + (y.f3.length : Int) + 2 * y.f4.length + 2 * y.f5.length = x + rowW y from by omega]
      refine Ev.bind hr (evC (Ev.now _) ?_)
      rw [show x + ((rowW y + rowsW l : Nat) : Int) = x + rowW y + rowsW l from by omega]
    · rw [show x + 1 + 1 + 1 = x + 3 from by omega] at v2 v3 ⊢
      exact ⟨by rw [marks_length], by rw [marks_length]; exact v2, by rw [marks_length, l2]; exact v3⟩
theorem markTabS (l : List S45) (x : Int) (hl : l.length ≤ 1048576) (h0 : 1 ≤ x) (h1 : x + rowsW l ≤ 4611686018427387904) : ∃ r, Ev (fun k => laws_markInodeS.f k l x) (x + rowsW l, r) ∧ r.length = l.length ∧ rowsW r = rowsW l ∧ HeldT x r := by
  obtain ⟨r, hr, z⟩ := markRows l x h0 h1
  exact ⟨r, by unfold laws_markInodeS.f; exact evP (by omega) hr, z⟩
theorem heldT_at (l : List S45) : ∀ (a : Int) (i : Nat) (h : i < l.length), HeldT a l → (l[i].f0 = a + rowsW (l.take i) ∧ l[i].f1 = a + rowsW (l.take i) + 1 ∧ l[i].f2 = a + rowsW (l.take i) + 2 ∧ HeldX (a + rowsW (l.take i) + 3) l[i].f3 l[i].f4 l[i].f5) := by
  induction l with
  | nil => intro a i h; simp at h
  | cons x l ih =>
    intro a i h hh
    cases i with
    | zero => simpa [rowsW] using hh.1
    | succ i =>
      have := ih (a + rowW x) i (by simpa using h) hh.2
      rw [show a + (rowW x : Int) + rowsW (l.take i) = a + rowsW ((x :: l).take (i + 1)) from by simp [rowsW]; omega] at this
      exact this
theorem rowsW_take (l : List S45) (i : Nat) (h : i < l.length) : rowsW (l.take (i + 1)) = rowsW (l.take i) + rowW l[i] := by
  unfold rowsW; rw [List.take_succ_eq_append_getElem h, List.map_append, List.sum_append]; simp
theorem rowsW_le (l : List S45) (i : Nat) : rowsW (l.take i) ≤ rowsW l := by
  have h : rowsW l = rowsW (l.take i) + rowsW (l.drop i) := by unfold rowsW; rw [← List.sum_append, ← List.map_append, List.take_append_drop]
  omega
end Go.Proofs.Ytkknehgaebhbeaa.Q
