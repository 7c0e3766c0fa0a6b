/- Lists of bytes copied and compared. No condition. -/
import Derived.Test.YtkfcmpalbhmmaaaDoorQa
import Derived.Test.YtkfcmpalbhmmaaaDoorPx0
namespace Go.Proofs.YtkfcmpalbhmmaaaDoor.Q
open Go.RowKit Go.Proofs.YtkfcmpalbhmmaaaDoor.P Go.Proofs.YtkfcmpalbhmmaaaDoorW.PrintWords Go.Proofs.YtkfcmpalbhmmaaaDoorW.PrintLast Go.Proofs.YtkfcmpalbhmmaaaDoorW.PrintMore

theorem set_copy (l : List Int) (n i : Nat) (hn : n = l.length) (hi : i < n) : (l.take i ++ List.replicate (n - i) 0).set i (rd l i) = l.take (i + 1) ++ List.replicate (n - (i + 1)) 0 := by
  subst hn
  rw [List.set_append, if_neg (by rw [List.length_take]; omega), show i - (l.take i).length = 0 from by rw [List.length_take]; omega]
  obtain ⟨m, hm⟩ : ∃ m, l.length - i = m + 1 := ⟨l.length - i - 1, by omega⟩
  rw [hm, List.replicate_succ, List.set_cons_zero, show l.length - (i + 1) = m from by omega, List.take_succ_eq_append_getElem hi, List.append_assoc]
  have : rd l i = l[i] := by simp [Go.Proofs.YtkfcmpalbhmmaaaDoorW.PrintWords.rd, List.getElem?_eq_getElem hi]
  rw [this]
  rfl
theorem eq_drop (a b : List Int) (i : Nat) (ha : i < a.length) (hb : i < b.length) : decide (a.drop i = b.drop i) = (decide (rd a i = rd b i) && decide (a.drop (i + 1) = b.drop (i + 1))) := by
  rw [drop_cons a i ha, drop_cons b i hb]
  by_cases h : rd a i = rd b i <;> simp [h]
end Go.Proofs.YtkfcmpalbhmmaaaDoor.Q
