/- Names: what is asked of a list of them. No condition. -/
import Derived.Test.YtkfcmpalbhmmaaaDoorQb
import Derived.Test.YtkfcmpalbhmmaaaDoorQh
import Derived.Test.YtkfcmpalbhmmaaaDoorPx1
namespace Go.Proofs.YtkfcmpalbhmmaaaDoor.Q
open Go.RowKit Go.Proofs.YtkfcmpalbhmmaaaDoor.P Go.Proofs.YtkfcmpalbhmmaaaDoorW.PrintWords Go.Proofs.YtkfcmpalbhmmaaaDoorW.PrintLast Go.Proofs.YtkfcmpalbhmmaaaDoorW.PrintMore

theorem nxtJ (i : Nat) (n : Nat) (hi : i < n) (hn : n ≤ 9223372036854775807) : wrap64 ((i : Int) + 1) = ((i + 1 : Nat) : Int) := by
  rw [w64 (by omega) (by omega)]; omega
theorem downJ {n : Nat} {P : Nat → Prop} (h1 : P n) (h2 : ∀ i, i < n → P (i + 1) → P i) : P 0 := by
  have key : ∀ m i : Nat, n - i = m → i ≤ n → P i := by
    intro m
    induction m with
    | zero => intro i hm hi; obtain rfl : i = n := by omega
              exact h1
    | succ m ih => intro i hm hi; exact h2 i (by omega) (ih (i + 1) (by omega) (by omega))
  exact key n 0 (by omega) (by omega)
theorem rdS (l : List ByteArray) (i : Nat) (h : i < l.length) : rdOf ByteArray.empty l (i : Int) = l[i] := getD_at l _ i h
def strSz (l : List ByteArray) : Nat := (l.map ByteArray.size).sum
theorem strSz_drop (l : List ByteArray) (i : Nat) (h : i < l.length) : strSz (l.drop i) = l[i].size + strSz (l.drop (i + 1)) := by
  unfold strSz; rw [List.drop_eq_getElem_cons h, List.map_cons, List.sum_cons]
theorem strSz_mem (l : List ByteArray) : ∀ x ∈ l, x.size ≤ strSz l := by
  induction l with
  | nil => intro x hx; cases hx
  | cons y l ih =>
    intro x hx
    unfold strSz at ih ⊢
    rw [List.map_cons, List.sum_cons]
    rcases List.mem_cons.1 hx with rfl | hx
    · omega
    · have := ih x hx; omega
theorem badR_ev (l : List ByteArray) (hs : ∀ x ∈ l, x.size ≤ 1048576) : ∀ i : Nat, ∃ r, Ev (fun k => badR k l i) r ∧ (decide (0 ≤ r)) = !(l.all nameOk) := by
  induction l with
  | nil => intro i; exact ⟨-1, Ev.now _, rfl⟩
  | cons x l ih =>
    intro i
    have hx := impl_name x (by have := hs x (List.mem_cons_self ..); omega)
    by_cases c : nameOk x = true
    · obtain ⟨r, h1, h2⟩ := ih (fun y hy => hs y (List.mem_cons_of_mem _ hy)) (i + 1)
      refine ⟨r, ?_, by rw [h2, List.all_cons, c, Bool.true_and]⟩
      simp only [badR]
      exact Ev.bind hx (evP c h1)
    · refine ⟨(i : Int), ?_, by simp [c]⟩
      simp only [badR]
      exact Ev.bind hx (evN c (Ev.now _))
def goodPath (l : List ByteArray) : Bool := l.all nameOk && decide (l.length ≤ 30)
theorem impl_names (l : List ByteArray) (hs : ∀ x ∈ l, x.size ≤ 1048576) : Ev (fun k => impl_namesOk.f k l) (goodPath l) := by
  unfold impl_namesOk.f goodPath
  by_cases c : l.length ≤ 30
  · obtain ⟨r, h1, h2⟩ := badR_ev l hs 0
    refine evP c (Ev.bind h1 (evC (Ev.now _) ?_))
    rw [h2]; simp [c]
  · exact evN c (evC (Ev.now _) (by simp [c]))
end Go.Proofs.YtkfcmpalbhmmaaaDoor.Q
