/- The laws' helpers over inodes and tables, where the print cuts at tests (CUTONE=4): inodes and tables copied, sized, compared with themselves. No condition. -/
import Derived.Test.YtkfcmpalbhmmaaaDoorQi
import Derived.Test.YtkfcmpalbhmmaaaDoorPx0
namespace Go.Proofs.YtkfcmpalbhmmaaaDoor.Q
open Go.RowKit Go.Proofs.YtkfcmpalbhmmaaaDoor.P Go.Proofs.YtkfcmpalbhmmaaaDoorW.PrintWords Go.Proofs.YtkfcmpalbhmmaaaDoorW.PrintLast Go.Proofs.YtkfcmpalbhmmaaaDoorW.PrintMore

/-- From the end to the begin. -/
theorem down {n : Nat} {P : Nat → Prop} (h1 : P n) (h2 : ∀ i, i < n → P (i + 1) → P i) : P 0 := by
  have key : ∀ m i : Nat, n - i = m → i ≤ n → P i := by
    intro m
    induction m with
    | zero => intro i hm hi; obtain rfl : i = n := by omega
              exact h1
    | succ m ih => intro i hm hi; exact h2 i (by omega) (ih (i + 1) (by omega) (by omega))
  exact key n 0 (by omega) (by omega)

theorem mem_le_sum {α : Type} (f : α → Nat) (l : List α) (x : α) (h : x ∈ l) : f x ≤ (l.map f).sum := by
  induction l with
  | nil => cases h
  | cons y l ih =>
    rw [List.map_cons, List.sum_cons]
    rcases List.mem_cons.1 h with rfl | h
    · omega
    · have := ih h; omega
end Go.Proofs.YtkfcmpalbhmmaaaDoor.Q
