/- Marks of names: each gets a text of its own number. No condition. -/
import Derived.Test.YtkfcmpalbhmmaaaDoorQm
import Derived.Test.YtkfcmpalbhmmaaaDoorQnm
import Derived.Test.YtkfcmpalbhmmaaaDoorPx1
namespace Go.Proofs.YtkfcmpalbhmmaaaDoor.Q
open Go.RowKit Go.Proofs.YtkfcmpalbhmmaaaDoor.P Go.Proofs.YtkfcmpalbhmmaaaDoorW.PrintWords Go.Proofs.YtkfcmpalbhmmaaaDoorW.PrintLast Go.Proofs.YtkfcmpalbhmmaaaDoorW.PrintMore

def HeldN (a : Int) (l : List ByteArray) : Prop := ∀ (i : Nat) (h : i < l.length), Ev (fun k => laws_markText.f k (a + i)) l[i]
theorem heldStringS (l : List ByteArray) (a : Int) (h0 : 1 ≤ a) (h1 : a + l.length ≤ 4611686018427387904) (hh : HeldN a l) : Ev (fun k => laws_heldStringS.f k l a) (a + l.length) := by
  unfold laws_heldStringS.f
  have key := down (n := l.length) (P := fun i => Ev (fun k => laws_heldStringS.l0 k l (a + i) (i : Nat)) (a + l.length)) (by
    apply evPre
    simp only [laws_heldStringS.l0]
    exact evN (by omega) (Ev.now _)) (fun i hi ih => by
    have hn : wrap64 (a + (i : Int) + 1) = a + ((i + 1 : Nat) : Int) := by rw [w64 (by omega) (by omega)]; omega
    apply evPre
    simp only [laws_heldStringS.l0]
    rw [rdS l i hi, nxt i l.length hi (by omega), hn]
    exact evP (by omega) (evP (by omega) (Ev.bind (hh i hi) (evP rfl ih))))
  simpa using key
theorem markStringS (l : List ByteArray) (a : Int) (h0 : 1 ≤ a) (h1 : a + l.length ≤ 4611686018427387904) : ∃ r, Ev (fun k => laws_markStringS.f k l a) (a + l.length, r) ∧ r.length = l.length ∧ HeldN a r := by
  have key := down (n := l.length) (P := fun i => ∀ y : List ByteArray, y.length = l.length → HeldN a (y.take i) → ∃ r, Ev (fun k => laws_markStringS.l0 k y (a + i) (i : Nat)) (a + l.length, r) ∧ r.length = l.length ∧ HeldN a r) (by
    intro y hy hh
    refine ⟨y, ?_, hy, by rw [← hy, List.take_length] at hh; exact hh⟩
    apply evPre
    simp only [laws_markStringS.l0]
    exact evN (by omega) (Ev.now _)) (fun i hi ih => by
    intro y hy hh
    obtain ⟨s, hs⟩ := mtext (a + i) (by omega) (by omega)
    have hn : wrap64 (a + (i : Int) + 1) = a + ((i + 1 : Nat) : Int) := by rw [w64 (by omega) (by omega)]; omega
    obtain ⟨r, e, hr, hhr⟩ := ih (y.set i s) (by rw [List.length_set]; exact hy) (by
      rw [take_set_at y i s (by omega)]
      intro j hj
      by_cases c : j < i
      · rw [List.getElem_append_left (by rw [List.length_take]; omega)]
        exact hh j (by rw [List.length_take]; omega)
      · have hj' : j = i := by rw [List.length_append, List.length_take] at hj; simp at hj; omega
        subst hj'
        rw [List.getElem_append_right (by rw [List.length_take]; omega)]
        simpa using hs)
    refine ⟨r, ?_, hr, hhr⟩
    apply evPre
    simp only [laws_markStringS.l0]
    rw [nxt i l.length hi (by omega), hn]
    refine evP (by omega) (Ev.bind hs (evP (by omega) ?_))
    simpa using e)
  unfold laws_markStringS.f
  simpa using key l rfl (by intro j hj; simp at hj)
theorem eqStringS_same (l : List ByteArray) (hl : l.length ≤ 9223372036854775807) : Ev (fun k => laws_eqStringS.f k l l) true := by
  unfold laws_eqStringS.f
  refine evP rfl ?_
  refine ev_scan (fun k i => laws_eqStringS.l0 k l l i) l.length true ?_ (fun i hi h => ?_)
  · apply evPre
    simp only [laws_eqStringS.l0]
    exact evN (by omega) (Ev.now _)
  · apply evPre
    simp only [laws_eqStringS.l0]
    rw [nxtJ i l.length hi (by omega)]
    exact evP (by omega) (evP (by omega) (evP (by omega) (evP (by trivial) h)))
end Go.Proofs.YtkfcmpalbhmmaaaDoor.Q
