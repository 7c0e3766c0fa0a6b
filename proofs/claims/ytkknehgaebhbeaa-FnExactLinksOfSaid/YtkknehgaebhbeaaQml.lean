/- LinksOf: what the program's and the reference's functions answer, in plain words. No condition. -/
import Derived.Test.YtkknehgaebhbeaaQi2
import Derived.Test.YtkknehgaebhbeaaPx0
import Derived.Test.YtkknehgaebhbeaaPx8
namespace Go.Proofs.Ytkknehgaebhbeaa.Q
open Go.RowKit Go.Proofs.Ytkknehgaebhbeaa.P Go.Proofs.YtkknehgaebhbeaaW.PrintWords Go.Proofs.YtkknehgaebhbeaaW.PrintLast Go.Proofs.YtkknehgaebhbeaaW.PrintMore

def entLinks (n : Int) (e : List S83) : Nat := (e.filter fun x => decide (x.f1 = n)).length
def inoLinks (n : Int) (x : S45) : Nat := if x.f1 = 2 then entLinks n x.f4 else 0
def linksOf (n : Int) (l : List S45) : Nat := (l.map (inoLinks n)).sum
theorem entLinks_drop (n : Int) (e : List S83) (j : Nat) (hj : j < e.length) : entLinks n (e.drop j) = (if e[j].f1 = n then 1 else 0) + entLinks n (e.drop (j + 1)) := by
  unfold entLinks
  rw [List.drop_eq_getElem_cons hj, List.filter_cons]
  by_cases h : e[j].f1 = n
  · rw [if_pos (by simpa using h), if_pos h, List.length_cons]; omega
  · rw [if_neg (by simpa using h), if_neg h]; omega
theorem linksOf_drop (n : Int) (l : List S45) (j : Nat) (hj : j < l.length) : linksOf n (l.drop j) = inoLinks n l[j] + linksOf n (l.drop (j + 1)) := by
  unfold linksOf; rw [List.drop_eq_getElem_cons hj, List.map_cons, List.sum_cons]
theorem spec_links (L : List S45) (nx n : Int) (hl : L.length ≤ 1048576) (hs : ∀ x ∈ L, x.f4.length ≤ 1048576) (hu : linksOf n L ≤ 4611686018427387904) : Ev (fun k => spec_LinksOf.f k L nx n) (linksOf n L : Int) := by
  have key : ∀ acc : Nat, acc + linksOf n (L.drop 0) ≤ 4611686018427387904 → Ev (fun k => spec_LinksOf.l0 k n (acc : Int) (0 : Nat) L nx) ((acc + linksOf n (L.drop 0) : Nat) : Int) := by
    refine down (n := L.length) (P := fun i => ∀ acc : Nat, acc + linksOf n (L.drop i) ≤ 4611686018427387904 → Ev (fun k => spec_LinksOf.l0 k n (acc : Int) (i : Nat) L nx) ((acc + linksOf n (L.drop i) : Nat) : Int)) ?_ (fun i hi ih => ?_)
    · intro acc _
      rw [List.drop_length]
      apply evPre
      simp only [spec_LinksOf.l0]
      exact evN (by omega) (evC (Ev.now _) (by simp [linksOf]))
    · intro acc hb
      rw [linksOf_drop n L i hi] at hb ⊢
      have hx := hs _ (List.getElem_mem hi)
      have ih := ih (acc + inoLinks n L[i]) (by omega)
      rw [← nxt i L.length hi (by omega)] at ih
      have ih : Ev (fun k => spec_LinksOf.l0 k n ((acc + inoLinks n L[i] : Nat) : Int) (wrap64 ((i : Int) + 1)) L nx) ((acc + (inoLinks n L[i] + linksOf n (L.drop (i + 1))) : Nat) : Int) := evC ih (by omega)
      generalize ((acc + (inoLinks n L[i] + linksOf n (L.drop (i + 1))) : Nat) : Int) = R at ih ⊢
      apply evPre
      simp only [spec_LinksOf.l0]
      refine evP (by omega) ?_
      have hrd : rd_T45 L (i : Int) = L[i] := getD_at L _ i hi
      have go : ∀ acc j, Ev (fun k => spec_LinksOf.l0 k n acc (wrap64 ((i : Int) + 1)) L nx) R → Ev (fun k => spec_LinksOf.j2 k n acc i j false L nx) R := by
        intro acc j h
        apply evPre
        simp only [spec_LinksOf.j2]
        exact evN (by simp) h
      by_cases hk : L[i].f1 = 2
      · unfold inoLinks at ih hb
        rw [if_pos hk] at ih hb
        have inner : ∀ acc : Nat, acc + entLinks n (L[i].f4.drop 0) ≤ 4611686018427387904 → Ev (fun k => spec_LinksOf.l0 k n ((acc + entLinks n (L[i].f4.drop 0) : Nat) : Int) (wrap64 ((i : Int) + 1)) L nx) R → Ev (fun k => spec_LinksOf.l1 k n (acc : Int) i (0 : Nat) L nx) R := by
          refine down (n := L[i].f4.length) (P := fun j => ∀ acc : Nat, acc + entLinks n (L[i].f4.drop j) ≤ 4611686018427387904 → Ev (fun k => spec_LinksOf.l0 k n ((acc + entLinks n (L[i].f4.drop j) : Nat) : Int) (wrap64 ((i : Int) + 1)) L nx) R → Ev (fun k => spec_LinksOf.l1 k n (acc : Int) i (j : Nat) L nx) R) ?_ (fun j hj ihj => ?_)
          · intro acc _ h
            rw [List.drop_length] at h
            apply evPre
            simp only [spec_LinksOf.l1, hrd]
            exact evP (by omega) (evP (by omega) (evN (by omega) (go _ _ (by simpa [entLinks] using h))))
          · intro acc hb h
            rw [entLinks_drop n _ j hj] at hb h
            apply evPre
            simp only [spec_LinksOf.l1, hrd]
            refine evP (by omega) (evP (by omega) (evP (by omega) ?_))
            apply evPre
            simp only [spec_LinksOf.j2, hrd]
            have hrj : rd_T83 L[i].f4 (j : Int) = L[i].f4[j] := getD_at L[i].f4 _ j hj
            refine evP (by simp [hk]) (evP (by omega) (evP (by omega) (evP (by omega) (evP (by omega) ?_))))
            rw [hrj, nxt j L[i].f4.length hj (by omega)]
            by_cases he : L[i].f4[j].f1 = n
            · rw [if_pos he] at hb h
              refine evP he ?_
              rw [w64 (n := (acc : Int) + 1) (by omega) (by omega)]
              have := ihj (acc + 1) (by omega) (by rw [show acc + 1 + entLinks n (L[i].f4.drop (j + 1)) = acc + (1 + entLinks n (L[i].f4.drop (j + 1))) from by omega]; exact h)
              simpa using this
            · rw [if_neg he] at hb h
              refine evN he (ihj acc (by omega) ?_)
              simpa using h
        exact inner acc (by simp only [List.drop_zero]; omega) (by simpa using ih)
      · unfold inoLinks at ih
        rw [if_neg hk] at ih
        apply evPre
        simp only [spec_LinksOf.l1, hrd]
        refine evP (by omega) (evP (by omega) (evI' (fun _ => ?_) (fun _ => go _ _ (by simpa using ih))))
        rw [show (L[i].f1 == 2) = false from by simp [hk]]
        exact go _ _ (by simpa using ih)
  have := key 0 (by simpa using hu)
  simpa [spec_LinksOf.f] using this
theorem impl_links (L : List S45) (nx n : Int) (hl : L.length ≤ 1048576) (hs : ∀ x ∈ L, x.f4.length ≤ 1048576) (hu : linksOf n L ≤ 4611686018427387904) : Ev (fun k => impl_LinksOf.f k L nx n) (linksOf n L : Int) := by
  have key : ∀ acc : Nat, acc + linksOf n (L.drop 0) ≤ 4611686018427387904 → Ev (fun k => impl_LinksOf.l0 k n (acc : Int) L (L.length : Int) (0 : Nat)) ((acc + linksOf n (L.drop 0) : Nat) : Int) := by
    refine down (n := L.length) (P := fun i => ∀ acc : Nat, acc + linksOf n (L.drop i) ≤ 4611686018427387904 → Ev (fun k => impl_LinksOf.l0 k n (acc : Int) L (L.length : Int) (i : Nat)) ((acc + linksOf n (L.drop i) : Nat) : Int)) ?_ (fun i hi ih => ?_)
    · intro acc _
      rw [List.drop_length]
      apply evPre
      simp only [impl_LinksOf.l0]
      exact evN (by omega) (evC (Ev.now _) (by simp [linksOf]))
    · intro acc hb
      rw [linksOf_drop n L i hi] at hb ⊢
      have hx := hs _ (List.getElem_mem hi)
      have ih := ih (acc + inoLinks n L[i]) (by omega)
      rw [← nxt i L.length hi (by omega)] at ih
      have ih : Ev (fun k => impl_LinksOf.l0 k n ((acc + inoLinks n L[i] : Nat) : Int) L (L.length : Int) (wrap64 ((i : Int) + 1))) ((acc + (inoLinks n L[i] + linksOf n (L.drop (i + 1))) : Nat) : Int) := evC ih (by omega)
      generalize ((acc + (inoLinks n L[i] + linksOf n (L.drop (i + 1))) : Nat) : Int) = R at ih ⊢
      apply evPre
      have hrd : rd_T45 L (i : Int) = L[i] := getD_at L _ i hi
      simp only [impl_LinksOf.l0, hrd]
      refine evP (by omega) ?_
      refine evP (by omega) (evP (by omega) ?_)
      by_cases hk : L[i].f1 = 2
      · unfold inoLinks at ih hb
        rw [if_pos hk] at ih hb
        refine evP hk ?_
        have inner : ∀ acc : Nat, acc + entLinks n (L[i].f4.drop 0) ≤ 4611686018427387904 → Ev (fun k => impl_LinksOf.l0 k n ((acc + entLinks n (L[i].f4.drop 0) : Nat) : Int) L (L.length : Int) (wrap64 ((i : Int) + 1))) R → Ev (fun k => impl_LinksOf.l1 k n (acc : Int) L (L.length : Int) i L[i].f4 (L[i].f4.length : Int) (0 : Nat)) R := by
          refine down (n := L[i].f4.length) (P := fun j => ∀ acc : Nat, acc + entLinks n (L[i].f4.drop j) ≤ 4611686018427387904 → Ev (fun k => impl_LinksOf.l0 k n ((acc + entLinks n (L[i].f4.drop j) : Nat) : Int) L (L.length : Int) (wrap64 ((i : Int) + 1))) R → Ev (fun k => impl_LinksOf.l1 k n (acc : Int) L (L.length : Int) i L[i].f4 (L[i].f4.length : Int) (j : Nat)) R) ?_ (fun j hj ihj => ?_)
          · intro acc _ h
            rw [List.drop_length] at h
            apply evPre
            simp only [impl_LinksOf.l1]
            exact evN (by omega) (by simpa [entLinks] using h)
          · intro acc hb h
            rw [entLinks_drop n _ j hj] at hb h
            apply evPre
            simp only [impl_LinksOf.l1]
            have hrj : rd_T83 L[i].f4 (j : Int) = L[i].f4[j] := getD_at L[i].f4 _ j hj
            refine evP (by omega) (evP (by omega) (evP (by omega) ?_))
            rw [hrj, nxt j L[i].f4.length hj (by omega)]
            by_cases he : L[i].f4[j].f1 = n
            · rw [if_pos he] at hb h
              refine evP he ?_
              rw [w64 (n := (acc : Int) + 1) (by omega) (by omega)]
              have := ihj (acc + 1) (by omega) (by rw [show acc + 1 + entLinks n (L[i].f4.drop (j + 1)) = acc + (1 + entLinks n (L[i].f4.drop (j + 1))) from by omega]; exact h)
              simpa using this
            · rw [if_neg he] at hb h
              refine evN he (ihj acc (by omega) ?_)
              simpa using h
        exact inner acc (by simp only [List.drop_zero]; omega) (by simpa using ih)
      · unfold inoLinks at ih
        rw [if_neg hk] at ih
        exact evN hk (by simpa using ih)
  have := key 0 (by simpa using hu)
  simpa [impl_LinksOf.f] using this
end Go.Proofs.Ytkknehgaebhbeaa.Q
