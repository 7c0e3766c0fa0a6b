/- Below: what the program's and the reference's functions answer, in plain words. No condition. -/
import Derived.Test.YtkfcmpalbhmmaaaDoorQsp
import Derived.Test.YtkfcmpalbhmmaaaDoorPx1
namespace Go.Proofs.YtkfcmpalbhmmaaaDoor.Q
open Go.RowKit Go.Proofs.YtkfcmpalbhmmaaaDoor.P Go.Proofs.YtkfcmpalbhmmaaaDoorW.PrintWords Go.Proofs.YtkfcmpalbhmmaaaDoorW.PrintLast Go.Proofs.YtkfcmpalbhmmaaaDoorW.PrintMore

theorem toList_inj {a b : ByteArray} : a.toList = b.toList ↔ a = b := by
  constructor
  · intro h
    rw [toList_data, toList_data] at h
    exact ByteArray.ext (Array.ext' h)
  · rintro rfl; rfl
theorem ev_same {α : Type} [DecidableEq α] (L : Nat → Int → Option Bool) (x z : List α) (hl : x.length = z.length) (h1 : Ev (fun k => L k (x.length : Nat)) true)
    (h2 : ∀ (i : Nat) (hi : i < x.length) (hz : i < z.length), (x[i] = z[i] → ∀ R, Ev (fun k => L k ((i + 1 : Nat) : Int)) R → Ev (fun k => L k (i : Nat)) R) ∧ (x[i] ≠ z[i] → Ev (fun k => L k (i : Nat)) false)) : Ev (fun k => L k 0) (decide (x = z)) := by
  have key : ∀ m i : Nat, x.length - i = m → i ≤ x.length → Ev (fun k => L k (i : Nat)) (decide (x.drop i = z.drop i)) := by
    intro m
    induction m with
    | zero =>
      intro i hm hi
      obtain rfl : i = x.length := by omega
      rw [List.drop_length, List.drop_eq_nil_of_le (by omega)]
      exact evC h1 (by simp)
    | succ m ih =>
      intro i hm hi
      have a := ih (i + 1) (by omega) (by omega)
      obtain ⟨s1, s2⟩ := h2 i (by omega) (by omega)
      rw [List.drop_eq_getElem_cons (show i < x.length by omega), List.drop_eq_getElem_cons (show i < z.length by omega)]
      by_cases c : x[i] = z[i]
      · exact evC (s1 c _ a) (by simp only [List.cons.injEq, c, true_and])
      · exact evC (s2 c) (by simp only [List.cons.injEq, c, false_and, decide_false])
  simpa using key x.length 0 (by omega) (by omega)
theorem rdT (l : List ByteArray) (n i : Nat) (h : i < (l.take n).length) : (l.take n)[i] = l[i]'(by rw [List.length_take] at h; omega) := List.getElem_take
def belowP (a b : ByteArray) : Bool := (splitP a).2 && ((splitP b).2 && decide ((splitP a).1.length ≤ (splitP b).1.length ∧ (splitP a).1 = (splitP b).1.take (splitP a).1.length))
theorem impl_below (a b : ByteArray) (ha : a.size ≤ 1048576) (hb : b.size ≤ 1048576) : Ev (fun k => impl_Below.f k a b) (belowP a b) := by
  unfold impl_Below.f belowP
  refine Ev.bind (impl_split a ha) (Ev.bind (impl_split b hb) ?_)
  have hx : (splitP a).1.length ≤ 1048577 := by
    have h := parts_len a.data.toList
    rw [data_length] at h
    unfold splitP
    split
    · simp
    · split
      · simp
      · rename_i x l hX
        split
        · have := congrArg List.length hX; simp at this; simp; omega
        · simp
  generalize splitP a = x at *
  generalize splitP b = y at *
  obtain ⟨x1, x2⟩ := x
  obtain ⟨y1, y2⟩ := y
  cases x2 with
  | false => exact evN (by simp) (Ev.now _)
  | true =>
  cases y2 with
  | false => exact evP rfl (evN (by simp) (Ev.now _))
  | true =>
  refine evP rfl (evP rfl ?_)
  by_cases c : x1.length ≤ y1.length
  · refine evP (by dsimp only; omega) (evP (by dsimp only; omega) ?_)
    simp only [Int.toNat_natCast]
    unfold slices_Equal_string_string.f
    have hl : x1.length = (y1.take x1.length).length := by rw [List.length_take]; omega
    have h := ev_same (fun k i => slices_Equal_string_string.l0 k x1 (y1.take x1.length) x1.length i) x1 (y1.take x1.length) hl
      (by apply evPre; simp only [slices_Equal_string_string.l0]; exact evN (by omega) (Ev.now _))
      (by
        intro i hi hz
        have r1 : rdOf ByteArray.empty x1 (i : Int) = x1[i] := rdS x1 i hi
        have r2 : rdOf ByteArray.empty (y1.take x1.length) (i : Int) = (y1.take x1.length)[i] := rdS _ i hz
        refine ⟨fun he R hR => ?_, fun hn => ?_⟩
        · apply evPre
          simp only [slices_Equal_string_string.l0]
          rw [nxtJ i x1.length hi (by dsimp only at hx; omega), r1, r2]
          exact evP (by omega) (evP (by omega) (evP (by omega) (evP (by omega) (evP (toList_inj.2 he) hR))))
        · apply evPre
          simp only [slices_Equal_string_string.l0]
          rw [r1, r2]
          exact evP (by omega) (evP (by omega) (evP (by omega) (evP (by omega) (evN (fun h => hn (toList_inj.1 h)) (Ev.now _))))))
    refine Ev.bind (evP (by omega) h) (evC (Ev.now _) ?_)
    simp [c]
  · exact evN (by dsimp only; omega) (evC (Ev.now _) (by simp [c]))
end Go.Proofs.YtkfcmpalbhmmaaaDoor.Q
