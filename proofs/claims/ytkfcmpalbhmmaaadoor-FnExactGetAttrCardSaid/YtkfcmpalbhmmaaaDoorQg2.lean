/- A table that reads as data: what is known of its inodes; its copy. No condition. -/
import Derived.Test.YtkfcmpalbhmmaaaDoorKinds
import Derived.Test.YtkfcmpalbhmmaaaDoorQi2
import Derived.Test.YtkfcmpalbhmmaaaDoorPx0
namespace Go.Proofs.YtkfcmpalbhmmaaaDoor.Q
open Go.RowKit Go.Proofs.YtkfcmpalbhmmaaaDoor.P Go.Proofs.YtkfcmpalbhmmaaaDoor.Kinds Go.Proofs.YtkfcmpalbhmmaaaDoorW.PrintWords Go.Proofs.YtkfcmpalbhmmaaaDoorW.PrintLast Go.Proofs.YtkfcmpalbhmmaaaDoorW.PrintMore

theorem good_tab (l : List S115) (h : ∀ x ∈ l, g115 x) : ∀ x ∈ l, InoM x := by
  intro x hx
  obtain ⟨_, _, _, ⟨hd, _⟩, ⟨he, ge⟩, ⟨ht, gt⟩⟩ := h x hx
  have hM : maxLen = 9223372036854775807 := rfl
  simp only [hM] at *
  exact ⟨hd, he, ht, fun e h => (ge e h).1, fun e h => gt e h⟩
theorem inoB_of (l : List S115) (h : ∀ x ∈ l, InoS x) : ∀ x ∈ l, InoB x := fun x hx => ⟨(h x hx).d, (h x hx).e, (h x hx).t⟩
/-- A small table's copy: its lists. -/
theorem small_map (l : List S115) (h : ∀ x ∈ l, InoS x) : ∀ x ∈ l.map iInode, x.f3.length ≤ 1048576 ∧ x.f4.length ≤ 1048576 ∧ x.f5.length ≤ 1048576 := by
  intro x hx
  obtain ⟨y, hy, rfl⟩ := List.mem_map.1 hx
  have := h y hy
  simp only [iInode, List.length_map]
  exact ⟨this.d, this.e, this.t⟩
end Go.Proofs.YtkfcmpalbhmmaaaDoor.Q
