/- UsageOf: what the program's and the reference's functions answer, in plain words. No condition. -/
import Derived.Test.YtkknehgaebhbeaaQi2
import Derived.Test.YtkknehgaebhbeaaPx0
import Derived.Test.YtkknehgaebhbeaaPx6
namespace Go.Proofs.Ytkknehgaebhbeaa.Q
open Go.RowKit Go.Proofs.Ytkknehgaebhbeaa.P Go.Proofs.YtkknehgaebhbeaaW.PrintWords Go.Proofs.YtkknehgaebhbeaaW.PrintLast Go.Proofs.YtkknehgaebhbeaaW.PrintMore

def attrUse (t : List S85) : Nat := (t.map fun a => a.f0.size + a.f1.size).sum
def inoUse (x : S45) : Nat := 32 + x.f3.length + attrUse x.f5
def usage (l : List S45) : Nat := (l.map inoUse).sum
theorem attrUse_drop (t : List S85) (j : Nat) (hj : j < t.length) : attrUse (t.drop j) = t[j].f0.size + t[j].f1.size + attrUse (t.drop (j + 1)) := by
  unfold attrUse; rw [List.drop_eq_getElem_cons hj, List.map_cons, List.sum_cons]
theorem usage_drop (l : List S45) (j : Nat) (hj : j < l.length) : usage (l.drop j) = inoUse l[j] + usage (l.drop (j + 1)) := by
  unfold usage; rw [List.drop_eq_getElem_cons hj, List.map_cons, List.sum_cons]
theorem spec_use_in (L : List S45) (nx a b c : Int) (d : List Int) (e : List S83) (t : List S85) (i R : Int) (ht : t.length ≤ 4611686018427387904) (acc : Nat) (hb : acc + attrUse t ≤ 4611686018427387904)
    (h : Ev (fun k => spec_UsageOf.l0 k ((acc + attrUse t : Nat) : Int) (wrap64 (i + 1)) L nx) R) : Ev (fun k => spec_UsageOf.l1 k (acc : Int) i 0 L nx a b c d e t) R := by
  have key : ∀ acc : Nat, acc + attrUse (t.drop 0) ≤ 4611686018427387904 → Ev (fun k => spec_UsageOf.l0 k ((acc + attrUse (t.drop 0) : Nat) : Int) (wrap64 (i + 1)) L nx) R → Ev (fun k => spec_UsageOf.l1 k (acc : Int) i (0 : Nat) L nx a b c d e t) R := by
    refine down (n := t.length) (P := fun j => ∀ acc : Nat, acc + attrUse (t.drop j) ≤ 4611686018427387904 → Ev (fun k => spec_UsageOf.l0 k ((acc + attrUse (t.drop j) : Nat) : Int) (wrap64 (i + 1)) L nx) R → Ev (fun k => spec_UsageOf.l1 k (acc : Int) i (j : Nat) L nx a b c d e t) R) ?_ (fun j hj ih => ?_)
    · intro acc _ h
      rw [List.drop_length] at h
      apply evPre
      simp only [spec_UsageOf.l1]
      exact evN (by omega) (by simpa [attrUse] using h)
    · intro acc hb h
      rw [attrUse_drop t j hj] at hb h
      have ih := ih (acc + t[j].f0.size + t[j].f1.size) (by omega) (by
        rw [show acc + t[j].f0.size + t[j].f1.size + attrUse (t.drop (j + 1)) = acc + (t[j].f0.size + t[j].f1.size + attrUse (t.drop (j + 1))) from by omega]; exact h)
      apply evPre
      simp only [spec_UsageOf.l1, rd_T85, getD_at t _ j hj]
      refine evP (by omega) (evP (by omega) ?_)
      rw [w64 (n := (acc : Int) + (t[j].f0.size : Int)) (by omega) (by omega), w64 (n := (acc : Int) + (t[j].f0.size : Int) + (t[j].f1.size : Int)) (by omega) (by omega), nxt j t.length hj (by omega)]
      simpa using ih
  exact key acc (by simpa using hb) (by simpa using h)
theorem spec_usage (L : List S45) (nx : Int) (hl : L.length ≤ 1048576) (hs : ∀ x ∈ L, x.f3.length ≤ 1048576 ∧ x.f5.length ≤ 1048576) (hu : usage L ≤ 4611686018427387904) : Ev (fun k => spec_UsageOf.f k L nx) (usage L : Int) := by
  have key : ∀ acc : Nat, acc + usage (L.drop 0) ≤ 4611686018427387904 → Ev (fun k => spec_UsageOf.l0 k (acc : Int) (0 : Nat) L nx) ((acc + usage (L.drop 0) : Nat) : Int) := by
    refine down (n := L.length) (P := fun i => ∀ acc : Nat, acc + usage (L.drop i) ≤ 4611686018427387904 → Ev (fun k => spec_UsageOf.l0 k (acc : Int) (i : Nat) L nx) ((acc + usage (L.drop i) : Nat) : Int)) ?_ (fun i hi ih => ?_)
    · intro acc _
      rw [List.drop_length]
      apply evPre
      simp only [spec_UsageOf.l0]
      exact evN (by omega) (evC (Ev.now _) (by simp [usage]))
    · intro acc hb
      rw [usage_drop L i hi] at hb ⊢
      have hx := hs _ (List.getElem_mem hi)
      unfold inoUse at hb ⊢
      have ih := ih (acc + 32 + L[i].f3.length + attrUse L[i].f5) (by omega)
      apply evPre
      simp only [spec_UsageOf.l0, rd_T45, getD_at L _ i hi]
      refine evP (by omega) (evP (by omega) ?_)
      rw [w64 (n := (acc : Int) + 32) (by omega) (by omega), w64 (n := (acc : Int) + 32 + (L[i].f3.length : Int)) (by omega) (by omega)]
      have := spec_use_in L nx L[i].f0 L[i].f1 L[i].f2 L[i].f3 L[i].f4 L[i].f5 (i : Int) _ (by omega) (acc + 32 + L[i].f3.length) (by omega) (by rw [nxt i L.length hi (by omega)]; exact ih)
      refine evC (by simpa using this) ?_
      omega
  have := key 0 (by simpa using hu)
  simpa [spec_UsageOf.f] using this
theorem impl_use_in (L : List S45) (M : Int) (t : List S85) (i R : Int) (ht : t.length ≤ 4611686018427387904) (acc : Nat) (hb : acc + attrUse t ≤ 4611686018427387904)
    (h : Ev (fun k => impl_UsageOf.l0 k ((acc + attrUse t : Nat) : Int) L M (wrap64 (i + 1))) R) : Ev (fun k => impl_UsageOf.l1 k (acc : Int) L M i t (t.length : Int) 0) R := by
  have key : ∀ acc : Nat, acc + attrUse (t.drop 0) ≤ 4611686018427387904 → Ev (fun k => impl_UsageOf.l0 k ((acc + attrUse (t.drop 0) : Nat) : Int) L M (wrap64 (i + 1))) R → Ev (fun k => impl_UsageOf.l1 k (acc : Int) L M i t (t.length : Int) (0 : Nat)) R := by
    refine down (n := t.length) (P := fun j => ∀ acc : Nat, acc + attrUse (t.drop j) ≤ 4611686018427387904 → Ev (fun k => impl_UsageOf.l0 k ((acc + attrUse (t.drop j) : Nat) : Int) L M (wrap64 (i + 1))) R → Ev (fun k => impl_UsageOf.l1 k (acc : Int) L M i t (t.length : Int) (j : Nat)) R) ?_ (fun j hj ih => ?_)
    · intro acc _ h
      rw [List.drop_length] at h
      apply evPre
      simp only [impl_UsageOf.l1]
      exact evN (by omega) (by simpa [attrUse] using h)
    · intro acc hb h
      rw [attrUse_drop t j hj] at hb h
      have ih := ih (acc + (t[j].f0.size + t[j].f1.size)) (by omega) (by
        rw [show acc + (t[j].f0.size + t[j].f1.size) + attrUse (t.drop (j + 1)) = acc + (t[j].f0.size + t[j].f1.size + attrUse (t.drop (j + 1))) from by omega]; exact h)
      apply evPre
      simp only [impl_UsageOf.l1, rd_T85, getD_at t _ j hj]
      refine evP (by omega) (evP (by omega) (evP (by omega) ?_))
      rw [w64 (n := (t[j].f0.size : Int) + (t[j].f1.size : Int)) (by omega) (by omega), w64 (n := (acc : Int) + ((t[j].f0.size : Int) + (t[j].f1.size : Int))) (by omega) (by omega), nxt j t.length hj (by omega)]
      simpa using ih
  exact key acc (by simpa using hb) (by simpa using h)
theorem impl_usage (L : List S45) (nx : Int) (hl : L.length ≤ 1048576) (hs : ∀ x ∈ L, x.f3.length ≤ 1048576 ∧ x.f5.length ≤ 1048576) (hu : usage L ≤ 4611686018427387904) : Ev (fun k => impl_UsageOf.f k L nx) (usage L : Int) := by
  have key : ∀ acc : Nat, acc + usage (L.drop 0) ≤ 4611686018427387904 → Ev (fun k => impl_UsageOf.l0 k (acc : Int) L (L.length : Int) (0 : Nat)) ((acc + usage (L.drop 0) : Nat) : Int) := by
    refine down (n := L.length) (P := fun i => ∀ acc : Nat, acc + usage (L.drop i) ≤ 4611686018427387904 → Ev (fun k => impl_UsageOf.l0 k (acc : Int) L (L.length : Int) (i : Nat)) ((acc + usage (L.drop i) : Nat) : Int)) ?_ (fun i hi ih => ?_)
    · intro acc _
      rw [List.drop_length]
      apply evPre
      simp only [impl_UsageOf.l0]
      exact evN (by omega) (evC (Ev.now _) (by simp [usage]))
    · intro acc hb
      rw [usage_drop L i hi] at hb ⊢
      have hx := hs _ (List.getElem_mem hi)
      unfold inoUse at hb ⊢
      have ih := ih (acc + (32 + L[i].f3.length) + attrUse L[i].f5) (by omega)
      apply evPre
      simp only [impl_UsageOf.l0, rd_T45, getD_at L _ i hi]
      refine evP (by omega) ?_
      refine evP (by omega) (evP (by omega) ?_)
      rw [w64 (n := 32 + (L[i].f3.length : Int)) (by omega) (by omega), w64 (n := (acc : Int) + (32 + (L[i].f3.length : Int))) (by omega) (by omega)]
      have := impl_use_in L (L.length : Int) L[i].f5 (i : Int) _ (by omega) (acc + (32 + L[i].f3.length)) (by omega) (by rw [nxt i L.length hi (by omega)]; exact ih)
      refine evC (by simpa using this) ?_
      omega
  have := key 0 (by simpa using hu)
  simpa [impl_UsageOf.f] using this
end Go.Proofs.Ytkknehgaebhbeaa.Q
