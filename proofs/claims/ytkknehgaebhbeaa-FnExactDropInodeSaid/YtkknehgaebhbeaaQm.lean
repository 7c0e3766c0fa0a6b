/- Inodes and tables marked, and the marks held. No condition. -/
import Derived.Test.YtkknehgaebhbeaaQmk
import Derived.Test.YtkknehgaebhbeaaQi2
import Derived.Test.YtkknehgaebhbeaaPx0
import Derived.Test.YtkknehgaebhbeaaPx1
import Derived.Test.YtkknehgaebhbeaaPx2
namespace Go.Proofs.Ytkknehgaebhbeaa.Q
open Go.RowKit Go.Proofs.Ytkknehgaebhbeaa.P Go.Proofs.YtkknehgaebhbeaaW.PrintWords Go.Proofs.YtkknehgaebhbeaaW.PrintLast Go.Proofs.YtkknehgaebhbeaaW.PrintMore

theorem textSize (l : List Int) : (strOfNums l).size = l.length := by
  simp [strOfNums, ByteArray.size]
theorem mtext_loop (m : Nat) : ∀ (n : Int) (s : ByteArray), 0 ≤ n → n ≤ 9223372036854775807 → n < 10 ^ m → s.size + m ≤ 1000 → ∃ r, Ev (fun k => laws_markText.l0 k n s) r := by
  induction m with
  | zero =>
    intro n s h0 _ h1 hs
    refine ⟨(⟨#[109]⟩ : ByteArray) ++ s, evPre ?_⟩
    simp only [laws_markText.l0]
    exact evN (by omega) (evP (by omega) (Ev.now _))
  | succ m ih =>
    intro n s h0 hM h1 hs
    by_cases hn : n > 0
    · have hd : wrap64 (Int.tdiv n 10) = n / 10 := by rw [Int.tdiv_eq_ediv_of_nonneg h0]; exact w64 (by omega) (by omega)
      obtain ⟨r, hr⟩ := ih (n / 10) ((strOfNums [wrap64 (48 + Int.tmod n 10) % 256]) ++ s) (by omega) (by omega) (by rw [Int.pow_succ] at h1; omega) (by rw [ByteArray.size_append, textSize]; simp; omega)
      refine ⟨r, evPre ?_⟩
      simp only [laws_markText.l0, Option.bind_some, hd]
      exact evP hn (evP (by rw [textSize]; simp; omega) hr)
    · refine ⟨(⟨#[109]⟩ : ByteArray) ++ s, evPre ?_⟩
      simp only [laws_markText.l0]
      exact evN hn (evP (by omega) (Ev.now _))
theorem mtext (n : Int) (h0 : 1 ≤ n) (h1 : n ≤ 9223372036854775807) : ∃ r, Ev (fun k => laws_markText.f k n) r := by
  obtain ⟨r, h⟩ := mtext_loop 19 n ⟨#[]⟩ (by omega) h1 (by omega) (by decide)
  exact ⟨r, by unfold laws_markText.f; exact evN (by omega) h⟩
theorem take_set_at {α : Type} (y : List α) (i : Nat) (v : α) (h : i < y.length) : (y.set i v).take (i + 1) = y.take i ++ [v] := by
  rw [List.take_succ_eq_append_getElem (by simpa using h), List.getElem_set_self, List.take_set_of_le (Nat.le_refl i)]

/-- The names and numbers of a directory's entries hold the marks from a on. -/
def HeldE : Int → List S83 → Prop
  | _, [] => True
  | a, x :: l => Ev (fun k => laws_markText.f k a) x.f0 ∧ x.f1 = a + 1 ∧ HeldE (a + 2) l
/-- The same, for attributes. -/
def HeldA : Int → List S85 → Prop
  | _, [] => True
  | a, x :: l => Ev (fun k => laws_markText.f k a) x.f0 ∧ Ev (fun k => laws_markText.f k (a + 1)) x.f1 ∧ HeldA (a + 2) l
theorem heldE_at (l : List S83) : ∀ (a : Int) (i : Nat) (h : i < l.length), HeldE a l → Ev (fun k => laws_markText.f k (a + 2 * i)) l[i].f0 ∧ l[i].f1 = a + 2 * i + 1 := by
  induction l with
  | nil => intro a i h; simp at h
  | cons x l ih =>
    intro a i h hh
    cases i with
    | zero => exact ⟨by simpa using hh.1, by simpa using hh.2.1⟩
    | succ i =>
      obtain ⟨h1, h2⟩ := ih (a + 2) i (by simpa using h) hh.2.2
      rw [show a + 2 + 2 * (i : Int) = a + 2 * ((i + 1 : Nat) : Int) from by omega] at h1 h2
      exact ⟨h1, h2⟩
theorem heldA_at (l : List S85) : ∀ (a : Int) (i : Nat) (h : i < l.length), HeldA a l → Ev (fun k => laws_markText.f k (a + 2 * i)) l[i].f0 ∧ Ev (fun k => laws_markText.f k (a + 2 * i + 1)) l[i].f1 := by
  induction l with
  | nil => intro a i h; simp at h
  | cons x l ih =>
    intro a i h hh
    cases i with
    | zero => exact ⟨by simpa using hh.1, by simpa using hh.2.1⟩
    | succ i =>
      obtain ⟨h1, h2⟩ := ih (a + 2) i (by simpa using h) hh.2.2
      rw [show a + 2 + 2 * (i : Int) = a + 2 * ((i + 1 : Nat) : Int) from by omega] at h1 h2
      exact ⟨h1, h2⟩
theorem heldEntS (l : List S83) (a : Int) (h0 : 1 ≤ a) (h1 : a + 2 * l.length ≤ 4611686018427387904) (hh : HeldE a l) : Ev (fun k => laws_heldEntS.f k l a) (a + 2 * l.length) := by
  have key := down (n := l.length) (P := fun i => Ev (fun k => laws_heldEntS.l0 k l (a + 2 * i) (i : Nat)) (a + 2 * l.length)) (by
      apply evPre
      simp only [laws_heldEntS.l0]
      exact evN (by omega) (Ev.now _)) (fun i hi h => by
      obtain ⟨g1, g2⟩ := heldE_at l a i hi hh
      have hrd : rd_T83 l (i : Int) = l[i] := getD_at l _ i hi
      apply evPre
      simp only [laws_heldEntS.l0, hrd]
      rw [w64 (n := a + 2 * (i : Int) + 1) (by omega) (by omega), w64 (n := a + 2 * (i : Int) + 1 + 1) (by omega) (by omega), nxt i l.length hi (by omega)]
      refine evP (by omega) (evP (by omega) (Ev.bind g1 (evP rfl (evP g2 ?_))))
      rw [show a + 2 * (i : Int) + 1 + 1 = a + 2 * ((i + 1 : Nat) : Int) from by omega]
      exact h)
  simpa [laws_heldEntS.f] using key
theorem heldAttrS (l : List S85) (a : Int) (h0 : 1 ≤ a) (h1 : a + 2 * l.length ≤ 4611686018427387904) (hh : HeldA a l) : Ev (fun k => laws_heldAttrS.f k l a) (a + 2 * l.length) := by
  have key := down (n := l.length) (P := fun i => Ev (fun k => laws_heldAttrS.l0 k l (a + 2 * i) (i : Nat)) (a + 2 * l.length)) (by
      apply evPre
      simp only [laws_heldAttrS.l0]
      exact evN (by omega) (Ev.now _)) (fun i hi h => by
      obtain ⟨g1, g2⟩ := heldA_at l a i hi hh
      have hrd : rd_T85 l (i : Int) = l[i] := getD_at l _ i hi
      apply evPre
      simp only [laws_heldAttrS.l0, hrd]
      rw [w64 (n := a + 2 * (i : Int) + 1) (by omega) (by omega), w64 (n := a + 2 * (i : Int) + 1 + 1) (by omega) (by omega), nxt i l.length hi (by omega)]
      refine evP (by omega) (evP (by omega) (Ev.bind g1 (evP rfl (Ev.bind g2 (evP rfl ?_)))))
      rw [show a + 2 * (i : Int) + 1 + 1 = a + 2 * ((i + 1 : Nat) : Int) from by omega]
      exact h)
  simpa [laws_heldAttrS.f] using key
theorem markEntS (l : List S83) (x : Int) (h0 : 1 ≤ x) (h1 : x + 2 * l.length ≤ 4611686018427387904) : ∃ r, Ev (fun k => laws_markEntS.f k l x) (x + 2 * l.length, r) ∧ r.length = l.length ∧ HeldE x r := by
  have key := down (n := l.length) (P := fun i => ∀ y : List S83, y.length = l.length → ∃ r, Ev (fun k => laws_markEntS.l0 k y (x + 2 * i) (i : Nat)) (x + 2 * l.length, y.take i ++ r) ∧ i + r.length = l.length ∧ HeldE (x + 2 * i) r) (by
      intro y hy
      refine ⟨[], evPre ?_, by simp, trivial⟩
      simp only [laws_markEntS.l0]
      refine evN (by omega) (evC (Ev.now _) ?_)
      rw [← hy, List.take_length, List.append_nil]) (by
      intro i hi h y hy
      obtain ⟨s, hs⟩ := mtext (x + 2 * i) (by omega) (by omega)
      obtain ⟨r, hr, hl, hh⟩ := h (((y.set i (⟨s, (rd_T83 y (i : Nat)).f1⟩ : S83)).set i (⟨(rd_T83 (y.set i (⟨s, (rd_T83 y (i : Nat)).f1⟩ : S83)) (i : Nat)).f0, x + 2 * i + 1⟩ : S83))) (by simp [hy])
      have e0 : (rd_T83 (y.set i (⟨s, (rd_T83 y (i : Nat)).f1⟩ : S83)) (i : Nat)).f0 = s := by rw [rd_T83, getD_at _ _ i (by simpa using (by omega : i < y.length)), List.getElem_set_self]
      have e1 := e0
      refine ⟨⟨s, x + 2 * i + 1⟩ :: r, evPre ?_, by simp; omega, hs, rfl, by rw [show x + 2 * (i : Int) + 2 = x + 2 * ((i + 1 : Nat) : Int) from by omega]; exact hh⟩
      simp only [laws_markEntS.l0, Option.bind_some]
      refine evP (by omega) (Ev.bind hs (evP (by omega) ?_))
      rw [w64 (n := x + 2 * (i : Int) + 1) (by omega) (by omega), w64 (n := x + 2 * (i : Int) + 1 + 1) (by omega) (by omega), nxt i l.length hi (by omega), show x + 2 * (i : Int) + 1 + 1 = x + 2 * ((i + 1 : Nat) : Int) from by omega]
      refine evC hr ?_
      rw [e1, take_set_at _ _ _ (by simp; omega), List.take_set_of_le (Nat.le_refl i), List.append_assoc]
      rfl)
  obtain ⟨r, hr, hl, hh⟩ := key l rfl
  exact ⟨r, by simpa [laws_markEntS.f] using hr, by omega, by simpa using hh⟩
theorem markAttrS (l : List S85) (x : Int) (h0 : 1 ≤ x) (h1 : x + 2 * l.length ≤ 4611686018427387904) : ∃ r, Ev (fun k => laws_markAttrS.f k l x) (x + 2 * l.length, r) ∧ r.length = l.length ∧ HeldA x r := by
  have key := down (n := l.length) (P := fun i => ∀ y : List S85, y.length = l.length → ∃ r, Ev (fun k => laws_markAttrS.l0 k y (x + 2 * i) (i : Nat)) (x + 2 * l.length, y.take i ++ r) ∧ i + r.length = l.length ∧ HeldA (x + 2 * i) r) (by
      intro y hy
      refine ⟨[], evPre ?_, by simp, trivial⟩
      simp only [laws_markAttrS.l0]
      refine evN (by omega) (evC (Ev.now _) ?_)
      rw [← hy, List.take_length, List.append_nil]) (by
      intro i hi h y hy
      obtain ⟨s, hs⟩ := mtext (x + 2 * i) (by omega) (by omega)
      obtain ⟨s2, hs2⟩ := mtext (x + 2 * i + 1) (by omega) (by omega)
      obtain ⟨r, hr, hl, hh⟩ := h (((y.set i (⟨s, (rd_T85 y (i : Nat)).f1⟩ : S85)).set i (⟨(rd_T85 (y.set i (⟨s, (rd_T85 y (i : Nat)).f1⟩ : S85)) (i : Nat)).f0, s2⟩ : S85))) (by simp [hy])
      have e1 : (rd_T85 (y.set i (⟨s, (rd_T85 y (i : Nat)).f1⟩ : S85)) (i : Nat)).f0 = s := by rw [rd_T85, getD_at _ _ i (by simpa using (by omega : i < y.length)), List.getElem_set_self]
      refine ⟨⟨s, s2⟩ :: r, evPre ?_, by simp; omega, hs, hs2, by rw [show x + 2 * (i : Int) + 2 = x + 2 * ((i + 1 : Nat) : Int) from by omega]; exact hh⟩
      simp only [laws_markAttrS.l0, Option.bind_some]
      rw [w64 (n := x + 2 * (i : Int) + 1) (by omega) (by omega), w64 (n := x + 2 * (i : Int) + 1 + 1) (by omega) (by omega), nxt i l.length hi (by omega), show x + 2 * (i : Int) + 1 + 1 = x + 2 * ((i + 1 : Nat) : Int) from by omega]
      refine evP (by omega) (Ev.bind hs (evP (by omega) (Ev.bind hs2 (evC hr ?_))))
      rw [e1, take_set_at _ _ _ (by simp; omega), List.take_set_of_le (Nat.le_refl i), List.append_assoc]
      rfl)
  obtain ⟨r, hr, hl, hh⟩ := key l rfl
  exact ⟨r, by simpa [laws_markAttrS.f] using hr, by omega, by simpa using hh⟩

/-- An inode's lists hold the marks from a on. -/
def HeldX (a : Int) (d : List Int) (e : List S83) (t : List S85) : Prop := d = marks d.length a ∧ HeldE (a + d.length) e ∧ HeldA (a + d.length + 2 * e.length) t
def inW (d : List Int) (e : List S83) (t : List S85) : Nat := d.length + 2 * e.length + 2 * t.length
theorem inW_of {d d' : List Int} {e e' : List S83} {t t' : List S85} (h1 : d'.length = d.length) (h2 : e'.length = e.length) (h3 : t'.length = t.length) : inW d' e' t' = inW d e t := by
  unfold inW; omega
end Go.Proofs.Ytkknehgaebhbeaa.Q
