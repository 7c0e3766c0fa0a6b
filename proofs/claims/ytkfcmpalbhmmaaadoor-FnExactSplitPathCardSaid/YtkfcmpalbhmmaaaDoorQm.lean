/- Inodes and tables marked, and the marks held. No condition. -/
import Derived.Test.YtkfcmpalbhmmaaaDoorQmk
import Derived.Test.YtkfcmpalbhmmaaaDoorQi2
import Derived.Test.YtkfcmpalbhmmaaaDoorPx1
namespace Go.Proofs.YtkfcmpalbhmmaaaDoor.Q
open Go.RowKit Go.Proofs.YtkfcmpalbhmmaaaDoor.P Go.Proofs.YtkfcmpalbhmmaaaDoorW.PrintWords Go.Proofs.YtkfcmpalbhmmaaaDoorW.PrintLast Go.Proofs.YtkfcmpalbhmmaaaDoorW.PrintMore

theorem textSize (l : List Int) : (strOfNums l).size = l.length := by
  simp [strOfNums, ByteArray.size]
theorem mtext_loop (m : Nat) : ∀ (n : Int) (s : ByteArray), 0 ≤ n → n ≤ 9223372036854775807 → n < 10 ^ m → s.size + m ≤ 1000 → ∃ r, Ev (fun k => laws_markText.l0 k n s) r := by
  induction m with
  | zero =>
    intro n s h0 _ h1 hs
    refine ⟨(⟨#[109]⟩ : ByteArray) ++ s, evPre ?_⟩
    simp only [laws_markText.l0]
    exact evN (by omega) (evP (by omega) (Ev.now _))
  | succ m ih =>
    intro n s h0 hM h1 hs
    by_cases hn : n > 0
    · have hd : wrap64 (Int.tdiv n 10) = n / 10 := by rw [Int.tdiv_eq_ediv_of_nonneg h0]; exact w64 (by omega) (by omega)
      obtain ⟨r, hr⟩ := ih (n / 10) ((strOfNums [wrap64 (48 + Int.tmod n 10) % 256]) ++ s) (by omega) (by omega) (by rw [Int.pow_succ] at h1; omega) (by rw [ByteArray.size_append, textSize]; simp; omega)
      refine ⟨r, evPre ?_⟩
      simp only [laws_markText.l0, Option.bind_some, hd]
      exact evP hn (evP (by rw [textSize]; simp; omega) hr)
    · refine ⟨(⟨#[109]⟩ : ByteArray) ++ s, evPre ?_⟩
      simp only [laws_markText.l0]
      exact evN hn (evP (by omega) (Ev.now _))
theorem mtext (n : Int) (h0 : 1 ≤ n) (h1 : n ≤ 9223372036854775807) : ∃ r, Ev (fun k => laws_markText.f k n) r := by
  obtain ⟨r, h⟩ := mtext_loop 19 n ⟨#[]⟩ (by omega) h1 (by omega) (by decide)
  exact ⟨r, by unfold laws_markText.f; exact evN (by omega) h⟩
theorem take_set_at {α : Type} (y : List α) (i : Nat) (v : α) (h : i < y.length) : (y.set i v).take (i + 1) = y.take i ++ [v] := by
  rw [List.take_succ_eq_append_getElem (by simpa using h), List.getElem_set_self, List.take_set_of_le (Nat.le_refl i)]

end Go.Proofs.YtkfcmpalbhmmaaaDoor.Q
