/- Bytes marked, and the marks held. No condition. -/
import Derived.Test.YtkfcmpalbhmmaaaDoorQc
import Derived.Test.YtkfcmpalbhmmaaaDoorPx0
namespace Go.Proofs.YtkfcmpalbhmmaaaDoor.Q
open Go.RowKit Go.Proofs.YtkfcmpalbhmmaaaDoor.P Go.Proofs.YtkfcmpalbhmmaaaDoorW.PrintWords Go.Proofs.YtkfcmpalbhmmaaaDoorW.PrintLast Go.Proofs.YtkfcmpalbhmmaaaDoorW.PrintMore

/-- n marks from k on. -/
def marks (n : Nat) (k : Int) : List Int := (List.range n).map fun (i : Nat) => (k + (i : Int)) % 256
theorem marks_length (n : Nat) (k : Int) : (marks n k).length = n := by simp [marks]
theorem rd_marks (n : Nat) (k : Int) (i : Nat) (h : i < n) : rd (marks n k) i = (k + i) % 256 := by
  simp [Go.Proofs.YtkfcmpalbhmmaaaDoorW.PrintWords.rd, marks, h]
theorem mark_set (xs : List Int) (k : Int) (i : Nat) (h : i < xs.length) : (marks i k ++ xs.drop i).set i ((k + i) % 256) = marks (i + 1) k ++ xs.drop (i + 1) := by
  rw [List.set_append, if_neg (by rw [marks_length]; omega), marks_length, Nat.sub_self, List.drop_eq_getElem_cons h, List.set_cons_zero]
  simp [marks, List.range_succ]
end Go.Proofs.YtkfcmpalbhmmaaaDoor.Q
