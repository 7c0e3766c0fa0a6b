/- SameTab: what the program's and the reference's functions answer, in plain words. No condition. -/
import Derived.Test.YtkknehgaebhbeaaQs
import Derived.Test.YtkknehgaebhbeaaQi2
import Derived.Test.YtkknehgaebhbeaaPx0
import Derived.Test.YtkknehgaebhbeaaPx5
namespace Go.Proofs.Ytkknehgaebhbeaa.Q
open Go.RowKit Go.Proofs.Ytkknehgaebhbeaa.P Go.Proofs.YtkknehgaebhbeaaW.PrintWords Go.Proofs.YtkknehgaebhbeaaW.PrintLast Go.Proofs.YtkknehgaebhbeaaW.PrintMore

/-- An inode's lists are small. -/
structure InoL (x : S45) : Prop where
  d : x.f3.length ≤ 1048576
  e : x.f4.length ≤ 1048576
  t : x.f5.length ≤ 1048576
def allS : List S45 → List S45 → Bool
  | x :: l, y :: m => inS x y && allS l m
  | _, _ => true
def tabS (l m : List S45) (a b : Int) : Bool := decide (a = b) && decide (l.length = m.length) && allS l m
theorem impl_sameR (l : List S45) : ∀ m : List S45, (∀ x ∈ l, InoL x) → Ev (fun k => sameR k l m) (allS l m) := by
  induction l with
  | nil => intro m _; simp only [sameR, allS]; exact Ev.now _
  | cons x l ih =>
    intro m hs
    cases m with
    | nil => simp only [sameR, allS]; exact Ev.now _
    | cons y m =>
      have hx := hs x (List.mem_cons_self ..)
      simp only [sameR, allS]
      refine Ev.bind (impl_same x y hx.d hx.e hx.t) ?_
      cases inS x y with
      | true => exact evP rfl (evC (ih m (fun z hz => hs z (List.mem_cons_of_mem _ hz))) (by simp))
      | false => exact evN (by simp) (evC (Ev.now _) (by simp))
theorem impl_sameTab (l m : List S45) (a b : Int) (hl : l.length ≤ 1048576) (hs : ∀ x ∈ l, InoL x) : Ev (fun k => impl_SameTab.f k l a m b) (tabS l m a b) := by
  unfold impl_SameTab.f tabS
  refine evP (by omega) ?_
  by_cases c : a = b
  · refine evP c ?_
    by_cases d : l.length = m.length
    · exact evP (by omega) (evC (impl_sameR l m hs) (by simp [c, d]))
    · exact evN (by omega) (evC (Ev.now _) (by simp [d]))
  · exact evN c (evC (Ev.now _) (by simp [c]))
theorem spec_sameTab_loop (l m : List S45) (a b : Int) (hl : l.length ≤ 1048576) (e : l.length = m.length) (hs : ∀ x ∈ l, InoL x) : Ev (fun k => spec_SameTab.l0 k 0 l a m b) (allS l m) := by
  have key : Ev (fun k => spec_SameTab.l0 k (0 : Nat) l a m b) (allS (l.drop 0) (m.drop 0)) := by
    refine down (n := l.length) (P := fun i => Ev (fun k => spec_SameTab.l0 k (i : Nat) l a m b) (allS (l.drop i) (m.drop i))) ?_ (fun i hi h => ?_)
    · rw [List.drop_length, show allS [] (m.drop l.length) = true by simp [allS]]
      apply evPre
      simp only [spec_SameTab.l0]
      exact evN (by omega) (Ev.now _)
    · have hj : i < m.length := by omega
      rw [List.drop_eq_getElem_cons hi, List.drop_eq_getElem_cons hj, allS]
      have hx := hs l[i] (List.getElem_mem hi)
      have r1 : rd_T45 l (i : Int) = l[i] := getD_at l _ i hi
      have r2 : rd_T45 m (i : Int) = m[i] := getD_at m _ i hj
      apply evPre
      simp only [spec_SameTab.l0, r1, r2]
      rw [nxt i l.length hi (by omega)]
      refine evP (by omega) (evP (by omega) (evP (by omega) (Ev.bind (spec_same l[i] m[i] hx.d hx.e hx.t) ?_)))
      cases inS l[i] m[i] with
      | true => exact evP rfl (evC h (by simp))
      | false => exact evN (by simp) (evC (Ev.now _) (by simp))
  simpa using key
theorem spec_sameTab (l m : List S45) (a b : Int) (hl : l.length ≤ 1048576) (hs : ∀ x ∈ l, InoL x) : Ev (fun k => spec_SameTab.f k l a m b) (tabS l m a b) := by
  unfold spec_SameTab.f tabS
  have no : ∀ r : Bool, r = false → Ev (fun k => spec_SameTab.j0 k true l a m b) r := by
    intro r hr
    apply evPre
    simp only [spec_SameTab.j0]
    exact evP (by simp) (evC (Ev.now _) hr.symm)
  by_cases c : a = b
  · refine evP c ?_
    by_cases d : l.length = m.length
    · have : ((l.length : Int) != (m.length : Int)) = false := by simp; omega
      rw [this]
      apply evPre
      simp only [spec_SameTab.j0]
      exact evN (by simp) (evC (spec_sameTab_loop l m a b hl d hs) (by simp [c, d]))
    · have : ((l.length : Int) != (m.length : Int)) = true := by simp; omega
      rw [this]
      exact no _ (by simp [d])
  · exact evN c (no _ (by simp [c]))
end Go.Proofs.Ytkknehgaebhbeaa.Q
