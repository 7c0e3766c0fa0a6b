/- The laws' helpers over inodes and tables, where the print cuts at tests (CUTONE=4): inodes and tables copied, sized, compared with themselves. No condition. -/
import Derived.Test.YtkfcmpalbhmmaaaDoorQi
import Derived.Test.YtkfcmpalbhmmaaaDoorPx0
import Derived.Test.YtkfcmpalbhmmaaaDoorPx1
import Derived.Test.YtkfcmpalbhmmaaaDoorPx2
namespace Go.Proofs.YtkfcmpalbhmmaaaDoor.Q
open Go.RowKit Go.Proofs.YtkfcmpalbhmmaaaDoor.P Go.Proofs.YtkfcmpalbhmmaaaDoorW.PrintWords Go.Proofs.YtkfcmpalbhmmaaaDoorW.PrintLast Go.Proofs.YtkfcmpalbhmmaaaDoorW.PrintMore

/-- From the end to the begin. -/
theorem down {n : Nat} {P : Nat → Prop} (h1 : P n) (h2 : ∀ i, i < n → P (i + 1) → P i) : P 0 := by
  have key : ∀ m i : Nat, n - i = m → i ≤ n → P i := by
    intro m
    induction m with
    | zero => intro i hm hi; obtain rfl : i = n := by omega
              exact h1
    | succ m ih => intro i hm hi; exact h2 i (by omega) (ih (i + 1) (by omega) (by omega))
  exact key n 0 (by omega) (by omega)

def iInode (x : S115) : S64 := ⟨x.f0, x.f1, x.f2, x.f3, x.f4.map iEnt, x.f5.map iAttr⟩
/-- An inode whose lists and names are of a size that one can hold. -/
def InoB (x : S115) : Prop := x.f3.length ≤ 1048576 ∧ x.f4.length ≤ 1048576 ∧ x.f5.length ≤ 1048576
theorem toInodeS_ev (l : List S115) (hl : l.length ≤ 1048576) (hb : ∀ x ∈ l, InoB x) : Ev (fun k => laws_toInodeS.f k l) (l.map iInode) := by
  unfold laws_toInodeS.f
  refine evP (by omega) (evP (by omega) ?_)
  rw [Int.toNat_natCast]
  refine ev_copy (fun k ys i => laws_toInodeS.l0 k l ys i) l iInode _ (fun ys => ?_) (fun i hi ys hy R h => ?_)
  · apply evPre
    simp only [laws_toInodeS.l0]
    exact evN (by omega) (Ev.now _)
  · have hB := hb l[i] (List.getElem_mem hi)
    have ht := toInode_ev l[i].f0 l[i].f1 l[i].f2 l[i].f3 l[i].f4 l[i].f5 hB.1 hB.2.1 hB.2.2
    apply evPre
    simp only [laws_toInodeS.l0, rd_T115, getD_at l _ i hi]
    refine evP (by omega) (evP (by omega) (Ev.bind ht (evP (by omega) ?_)))
    rw [nxt i l.length hi (by omega), Int.toNat_natCast]
    exact h
theorem toTab_ev (l : List S115) (n : Int) (hl : l.length ≤ 1048576) (hb : ∀ x ∈ l, InoB x) : Ev (fun k => laws_toTab.f k l n) (l.map iInode, n) := by
  unfold laws_toTab.f
  exact Ev.bind (toInodeS_ev l hl hb) (Ev.now _)
theorem eqInodeS_refl (l : List S64) (hl : l.length ≤ 9223372036854775807) (hb : ∀ x ∈ l, x.f3.length ≤ 9223372036854775807 ∧ x.f4.length ≤ 9223372036854775807 ∧ x.f5.length ≤ 9223372036854775807) : Ev (fun k => laws_eqInodeS.f k l l) true := by
  unfold laws_eqInodeS.f
  refine evP rfl ?_
  refine ev_scan (fun k i => laws_eqInodeS.l0 k l l i) l.length true ?_ (fun i hi h => ?_)
  · apply evPre
    simp only [laws_eqInodeS.l0]
    exact evN (by omega) (Ev.now _)
  · have hB := hb l[i] (List.getElem_mem hi)
    apply evPre
    simp only [laws_eqInodeS.l0, rd_T64, getD_at l _ i hi]
    refine evP (by omega) (evP (by omega) (evP (by omega) (Ev.bind (eqInode_refl _ _ _ _ _ _ hB.1 hB.2.1 hB.2.2) (evP rfl ?_))))
    rw [nxt i l.length hi hl]
    exact h
theorem eqTab_refl (l : List S64) (n : Int) (hl : l.length ≤ 9223372036854775807) (hb : ∀ x ∈ l, x.f3.length ≤ 9223372036854775807 ∧ x.f4.length ≤ 9223372036854775807 ∧ x.f5.length ≤ 9223372036854775807) : Ev (fun k => laws_eqTab.f k l n l n) true := by
  unfold laws_eqTab.f
  exact Ev.bind (eqInodeS_refl l hl hb) (evP rfl (evP rfl (Ev.now _)))
theorem iInode_b (l : List S115) (hb : ∀ x ∈ l, InoB x) : ∀ x ∈ l.map iInode, x.f3.length ≤ 9223372036854775807 ∧ x.f4.length ≤ 9223372036854775807 ∧ x.f5.length ≤ 9223372036854775807 := by
  intro x hx
  obtain ⟨y, hy, rfl⟩ := List.mem_map.1 hx
  have := hb y hy
  unfold InoB at this
  simp only [iInode, List.length_map]
  omega

/-- An inode that could be read. -/
def InoM (x : S115) : Prop := x.f3.length ≤ 9223372036854775807 ∧ x.f4.length ≤ 9223372036854775807 ∧ x.f5.length ≤ 9223372036854775807 ∧ (∀ e ∈ x.f4, e.f0.size ≤ 9223372036854775807) ∧ (∀ e ∈ x.f5, e.f0.size ≤ 9223372036854775807 ∧ e.f1.size ≤ 9223372036854775807)
def inoSz (x : S115) : Nat := inodeSz x.f3 x.f4 x.f5
def tabSz (l : List S115) : Nat := l.length + (l.map inoSz).sum
theorem szInodeS_ev (l : List S115) (n : Int) (h0 : 0 ≤ n) (h1 : n ≤ 1048576) (hl : l.length ≤ 9223372036854775807) (hg : ∀ x ∈ l, InoM x) :
    ∃ R, Ev (fun k => laws_szInodeS.f k l n) R ∧ (0 ≤ R → R = n - tabSz l) ∧ R ≤ n := by
  unfold laws_szInodeS.f
  rw [w64 (by omega) (by omega)]
  by_cases h : n - (l.length : Int) < 0
  · exact ⟨-1, evP h (Ev.now _), fun h => by omega, by omega⟩
  · obtain ⟨R, hR, hZ⟩ := ev_carry (fun k a i => laws_szInodeS.l0 k l a i) l.length (fun i a => 0 ≤ a ∧ a ≤ n ∧ a = n - l.length - ((l.take i).map inoSz).sum) (fun R => (0 ≤ R → R = n - tabSz l) ∧ R ≤ n)
      (fun a ha => ⟨a, by
        apply evPre
        simp only [laws_szInodeS.l0]
        exact evN (by omega) (Ev.now _), fun _ => by rw [ha.2.2, List.take_length]; unfold tabSz; omega, by omega⟩)
      (fun i a hi ha => by
        obtain ⟨m1, m2, m3, m4, m5⟩ := hg l[i] (List.getElem_mem hi)
        have hs := sum_take inoSz l i hi
        obtain ⟨R1, e1, z1, l1⟩ := szInode_ev l[i].f0 l[i].f1 l[i].f2 l[i].f3 l[i].f4 l[i].f5 a ha.1 (by omega) m1 m2 m3 m4 m5
        by_cases hlt : R1 < 0
        · refine .inl ⟨-1, ?_, fun h => by omega, by omega⟩
          apply evPre
          simp only [laws_szInodeS.l0, rd_T115, getD_at l _ i hi]
          exact evP (by omega) (evP (by omega) (Ev.bind e1 (evP hlt (Ev.now _))))
        · have z1 := z1 (by omega)
          refine .inr ⟨R1, ⟨by omega, by omega, by rw [hs]; unfold inoSz at *; omega⟩, fun R h => ?_⟩
          apply evPre
          simp only [laws_szInodeS.l0, rd_T115, getD_at l _ i hi]
          refine evP (by omega) (evP (by omega) (Ev.bind e1 (evN hlt ?_)))
          rw [nxt i l.length hi hl]
          exact h) (n - l.length) ⟨by omega, by omega, by simp⟩
    exact ⟨R, evN h hR, hZ⟩
theorem szTab_ev (l : List S115) (nx n : Int) (h0 : 0 ≤ n) (h1 : n ≤ 1048576) (hl : l.length ≤ 9223372036854775807) (hg : ∀ x ∈ l, InoM x) :
    ∃ R, Ev (fun k => laws_szTab.f k l nx n) R ∧ (0 ≤ R → R = n - tabSz l) ∧ R ≤ n := by
  obtain ⟨R, e, z, h⟩ := szInodeS_ev l n h0 h1 hl hg
  unfold laws_szTab.f
  by_cases c : R < 0
  · exact ⟨-1, Ev.bind e (evP c (Ev.now _)), fun h => by omega, by omega⟩
  · exact ⟨R, Ev.bind e (evN c (Ev.now _)), z, h⟩
theorem mem_le_sum {α : Type} (f : α → Nat) (l : List α) (x : α) (h : x ∈ l) : f x ≤ (l.map f).sum := by
  induction l with
  | nil => cases h
  | cons y l ih =>
    rw [List.map_cons, List.sum_cons]
    rcases List.mem_cons.1 h with rfl | h
    · omega
    · have := ih h; omega
/-- What is known of an inode of a table that is small enough. -/
structure InoS (x : S115) : Prop where
  d : x.f3.length ≤ 1048576
  e : x.f4.length ≤ 1048576
  t : x.f5.length ≤ 1048576
  en : ∀ y ∈ x.f4, y.f0.size ≤ 1048576
  tn : ∀ y ∈ x.f5, y.f0.size ≤ 1048576 ∧ y.f1.size ≤ 1048576
theorem inoS_of (x : S115) (h : inoSz x ≤ 1048576) : InoS x := by
  unfold inoSz inodeSz at h
  refine ⟨by omega, by omega, by omega, fun y hy => ?_, fun y hy => ?_⟩
  · have := mem_le_sum (fun e : S141 => e.f0.size) x.f4 y hy
    unfold entSz at h
    omega
  · have := mem_le_sum (fun e : S143 => e.f0.size + e.f1.size) x.f5 y hy
    unfold attrSz at h
    omega
theorem tab_small (l : List S115) (h : tabSz l ≤ 1048576) : l.length ≤ 1048576 ∧ ∀ x ∈ l, InoS x := by
  unfold tabSz at h
  refine ⟨by omega, fun x hx => inoS_of x ?_⟩
  have := mem_le_sum inoSz l x hx
  omega
end Go.Proofs.YtkfcmpalbhmmaaaDoor.Q
