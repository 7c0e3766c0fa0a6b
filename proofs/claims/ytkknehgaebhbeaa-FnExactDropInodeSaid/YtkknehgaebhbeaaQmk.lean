/- Bytes marked, and the marks held. No condition. -/
import Derived.Test.YtkknehgaebhbeaaQc
import Derived.Test.YtkknehgaebhbeaaPx1
import Derived.Test.YtkknehgaebhbeaaPx2
namespace Go.Proofs.Ytkknehgaebhbeaa.Q
open Go.RowKit Go.Proofs.Ytkknehgaebhbeaa.P Go.Proofs.YtkknehgaebhbeaaW.PrintWords Go.Proofs.YtkknehgaebhbeaaW.PrintLast Go.Proofs.YtkknehgaebhbeaaW.PrintMore

/-- n marks from k on. -/
def marks (n : Nat) (k : Int) : List Int := (List.range n).map fun (i : Nat) => (k + (i : Int)) % 256
theorem marks_length (n : Nat) (k : Int) : (marks n k).length = n := by simp [marks]
theorem rd_marks (n : Nat) (k : Int) (i : Nat) (h : i < n) : rd (marks n k) i = (k + i) % 256 := by
  simp [Go.Proofs.YtkknehgaebhbeaaW.PrintWords.rd, marks, h]
theorem mark_set (xs : List Int) (k : Int) (i : Nat) (h : i < xs.length) : (marks i k ++ xs.drop i).set i ((k + i) % 256) = marks (i + 1) k ++ xs.drop (i + 1) := by
  rw [List.set_append, if_neg (by rw [marks_length]; omega), marks_length, Nat.sub_self, List.drop_eq_getElem_cons h, List.set_cons_zero]
  simp [marks, List.range_succ]
theorem mark_loop (xs : List Int) (k0 : Int) (hk : 0 ≤ k0) (hk1 : k0 + xs.length ≤ 9223372036854775807) (n : Nat) : ∀ (i : Nat), i ≤ xs.length → xs.length - i = n →
    Ev (fun k => laws_markByteS.l0 k (marks i k0 ++ xs.drop i) (k0 + i) i) (k0 + xs.length, marks xs.length k0) := by
  induction n with
  | zero =>
    intro i hi hn
    apply evPre
    simp only [laws_markByteS.l0]
    obtain rfl : i = xs.length := by omega
    refine evN (by simp [marks_length]) (evC (Ev.now _) ?_)
    simp
  | succ n ih =>
    intro i hi hn
    have ih := ih (i + 1) (by omega) (by omega)
    rw [show ((i + 1 : Nat) : Int) = (i : Int) + 1 from by omega] at ih
    apply evPre
    simp only [laws_markByteS.l0]
    refine evP (by simp [marks_length]; omega) (evP (by omega) ?_)
    rw [Int.toNat_natCast, mark_set xs k0 i (by omega), w64 (n := k0 + (i : Int) + 1) (by omega) (by omega), w64 (n := (i : Int) + 1) (by omega) (by omega), Int.add_assoc]
    exact ih
theorem markByteS_ev (xs : List Int) (k0 : Int) (hk : 0 ≤ k0) (hk1 : k0 + xs.length ≤ 9223372036854775807) : Ev (fun k => laws_markByteS.f k xs k0) (k0 + xs.length, marks xs.length k0) := by
  have h := mark_loop xs k0 hk hk1 xs.length 0 (by omega) (by omega)
  simpa [laws_markByteS.f, marks] using h
theorem held_loop (m : Nat) (k0 : Int) (hk : 0 ≤ k0) (hk1 : k0 + m ≤ 9223372036854775807) (n : Nat) : ∀ (i : Nat), i ≤ m → m - i = n →
    Ev (fun k => laws_heldByteS.l0 k (marks m k0) (k0 + i) i) (k0 + m) := by
  induction n with
  | zero =>
    intro i hi hn
    apply evPre
    simp only [laws_heldByteS.l0]
    obtain rfl : i = m := by omega
    exact evN (by simp [marks_length]) (Ev.now _)
  | succ n ih =>
    intro i hi hn
    have ih := ih (i + 1) (by omega) (by omega)
    rw [show ((i + 1 : Nat) : Int) = (i : Int) + 1 from by omega] at ih
    apply evPre
    simp only [laws_heldByteS.l0]
    refine evP (by simp [marks_length]; omega) (evP (by omega) (evP (rd_marks m k0 i (by omega)) ?_))
    rw [w64 (n := k0 + (i : Int) + 1) (by omega) (by omega), w64 (n := (i : Int) + 1) (by omega) (by omega), Int.add_assoc]
    exact ih
theorem heldByteS_ev (m : Nat) (k0 : Int) (hk : 0 ≤ k0) (hk1 : k0 + m ≤ 9223372036854775807) : Ev (fun k => laws_heldByteS.f k (marks m k0) k0) (k0 + m) := by
  have h := held_loop m k0 hk hk1 m 0 (by omega) (by omega)
  simpa [laws_heldByteS.f] using h
end Go.Proofs.Ytkknehgaebhbeaa.Q
