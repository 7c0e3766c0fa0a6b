/- A drawn path for splitting: the reference's function answers, and how long. No condition. -/
import Derived.Test.YtkfcmpalbhmmaaaDoorQdp
import Derived.Test.YtkfcmpalbhmmaaaDoorPx1
namespace Go.Proofs.YtkfcmpalbhmmaaaDoor.Q
open Go.RowKit Go.Proofs.YtkfcmpalbhmmaaaDoor.P Go.Proofs.YtkfcmpalbhmmaaaDoorW.PrintWords Go.Proofs.YtkfcmpalbhmmaaaDoorW.PrintLast Go.Proofs.YtkfcmpalbhmmaaaDoorW.PrintMore

theorem drawSplit_loop {b : List Int} (n : Nat) : ∀ (j : Nat) (acc : ByteArray) (i h : Int), Cur b i → 31 - j = n → j ≤ 31 → acc.size ≤ 2 * j →
    ∃ s, Ev (fun k => spec_DrawSplitPath.l0 k acc (j : Nat) b i h) s ∧ s.size ≤ 62 := by
  induction n with
  | zero =>
    intro j acc i h hc hn hj hs
    obtain ⟨x, i1, h1, e, hx0, hx1, _, hc1⟩ := l1Below_ev hc h 2
    have := hx1 (by omega)
    refine ⟨acc, ?_, by omega⟩
    apply evPre
    simp only [spec_DrawSplitPath.l0, e, Option.bind_some]
    rw [w64 (n := 30 + x) (by omega) (by omega)]
    exact evN (by omega) (Ev.now _)
  | succ n ih =>
    intro j acc i h hc hn hj hs
    obtain ⟨x, i1, h1, e, hx0, hx1, _, hc1⟩ := l1Below_ev hc h 2
    have := hx1 (by omega)
    have hsz : (acc ++ (⟨#[47, 97]⟩ : ByteArray)).size = acc.size + 2 := by rw [ByteArray.size_append]; rfl
    by_cases c : (j : Int) < 30 + x
    · obtain ⟨s, e2, hs2⟩ := ih (j + 1) (acc ++ (⟨#[47, 97]⟩ : ByteArray)) i1 h1 hc1 (by omega) (by omega) (by rw [hsz]; omega)
      refine ⟨s, ?_, hs2⟩
      apply evPre
      simp only [spec_DrawSplitPath.l0, e, Option.bind_some]
      rw [w64 (n := 30 + x) (by omega) (by omega), w64 (by omega) (by omega)]
      exact evP c (evP (by omega) (by simpa using e2))
    · refine ⟨acc, ?_, by omega⟩
      apply evPre
      simp only [spec_DrawSplitPath.l0, e, Option.bind_some]
      rw [w64 (n := 30 + x) (by omega) (by omega)]
      exact evN c (Ev.now _)
theorem drawSplit_ev (l : List Int) (hb : Byt l) (hl : l.length ≤ 4611686018427387904) : ∃ s, Ev (fun k => spec_DrawSplitPath.f k l) s ∧ s.size ≤ 100 := by
  obtain ⟨h1, e1, c1⟩ := l1New_ev l hb hl
  obtain ⟨t, i2, h2, e2, c2⟩ := l1Once_ev c1 h1 20
  cases t with
  | true =>
    obtain ⟨s, e3, hs⟩ := drawSplit_loop 31 0 ⟨#[]⟩ i2 h2 c2 rfl (by omega) (by have : (⟨#[]⟩ : ByteArray).size = 0 := rfl; omega)
    refine ⟨s, ?_, by omega⟩
    unfold spec_DrawSplitPath.f
    refine Ev.bind e1 ?_
    simp only [e2, Option.bind_some]
    exact evP trivial e3
  | false =>
    obtain ⟨s, i3, h3, e3, hs, c3⟩ := l2Any_ev c2 h2
    refine ⟨s, ?_, hs⟩
    unfold spec_DrawSplitPath.f
    refine Ev.bind e1 ?_
    simp only [e2, Option.bind_some]
    exact evN (by simp) (Ev.bind e3 (Ev.now _))
end Go.Proofs.YtkfcmpalbhmmaaaDoor.Q
