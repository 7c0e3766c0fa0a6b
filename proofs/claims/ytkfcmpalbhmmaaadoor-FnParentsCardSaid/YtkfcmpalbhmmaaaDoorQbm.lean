/- What is below what. No condition. -/
import Derived.Test.YtkfcmpalbhmmaaaDoorQpp
import Derived.Test.YtkfcmpalbhmmaaaDoorQbl
import Derived.Test.YtkfcmpalbhmmaaaDoorPx0
namespace Go.Proofs.YtkfcmpalbhmmaaaDoor.Q
open Go.RowKit Go.Proofs.YtkfcmpalbhmmaaaDoor.P Go.Proofs.YtkfcmpalbhmmaaaDoorW.PrintWords Go.Proofs.YtkfcmpalbhmmaaaDoorW.PrintLast Go.Proofs.YtkfcmpalbhmmaaaDoorW.PrintMore

theorem below_le (a b : ByteArray) (h : belowP a b = true) : a.size ≤ b.size := by
  unfold belowP at h
  simp only [Bool.and_eq_true, decide_eq_true_eq] at h
  obtain ⟨h1, h2, h3, h4⟩ := h
  have e1 := path_split a h1
  have e2 := path_split b h2
  have g1 := joinQ_size _ (splitP_good a h1)
  have g2 := joinQ_size _ (splitP_good b h2)
  rw [e1] at g1
  rw [e2] at g2
  have := strSz_pre _ _ h4
  omega
theorem below_anti (a b : ByteArray) (h : belowP a b = true) (k : belowP b a = true) : a = b := by
  unfold belowP at h k
  simp only [Bool.and_eq_true, decide_eq_true_eq] at h k
  obtain ⟨h1, h2, h3, h4⟩ := h
  obtain ⟨_, _, k3, k4⟩ := k
  rw [← path_split a h1, ← path_split b h2]
  congr 1
  rw [h4, show (splitP a).1.length = (splitP b).1.length by omega, List.take_length]
end Go.Proofs.YtkfcmpalbhmmaaaDoor.Q
