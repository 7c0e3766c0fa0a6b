/- Lists of bytes copied and compared. No condition. -/
import Derived.Test.YtkfcmpalbhmmaaaDoorQa
import Derived.Test.YtkfcmpalbhmmaaaDoorPx1
namespace Go.Proofs.YtkfcmpalbhmmaaaDoor.Q
open Go.RowKit Go.Proofs.YtkfcmpalbhmmaaaDoor.P Go.Proofs.YtkfcmpalbhmmaaaDoorW.PrintWords Go.Proofs.YtkfcmpalbhmmaaaDoorW.PrintLast Go.Proofs.YtkfcmpalbhmmaaaDoorW.PrintMore

theorem set_copy (l : List Int) (n i : Nat) (hn : n = l.length) (hi : i < n) : (l.take i ++ List.replicate (n - i) 0).set i (rd l i) = l.take (i + 1) ++ List.replicate (n - (i + 1)) 0 := by
  subst hn
  rw [List.set_append, if_neg (by rw [List.length_take]; omega), show i - (l.take i).length = 0 from by rw [List.length_take]; omega]
  obtain ⟨m, hm⟩ : ∃ m, l.length - i = m + 1 := ⟨l.length - i - 1, by omega⟩
  rw [hm, List.replicate_succ, List.set_cons_zero, show l.length - (i + 1) = m from by omega, List.take_succ_eq_append_getElem hi, List.append_assoc]
  have : rd l i = l[i] := by simp [Go.Proofs.YtkfcmpalbhmmaaaDoorW.PrintWords.rd, List.getElem?_eq_getElem hi]
  rw [this]
  rfl
theorem toByteS_loop (l : List Int) (hl : l.length ≤ 9223372036854775807) (n : Nat) : ∀ (i : Nat), i ≤ l.length → l.length - i = n →
    Ev (fun k => laws_toByteS.l0 k l (l.take i ++ List.replicate (l.length - i) 0) i) l := by
  induction n with
  | zero =>
    intro i hi hn
    apply evPre
    simp only [laws_toByteS.l0]
    refine evN (by omega) ?_
    rw [List.take_of_length_le (by omega), hn]
    simpa using Ev.now l
  | succ n ih =>
    intro i hi hn
    have ih := ih (i + 1) (by omega) (by omega)
    rw [show ((i + 1 : Nat) : Int) = wrap64 ((i : Int) + 1) from by rw [w64 (by omega) (by omega)]; simp] at ih
    apply evPre
    simp only [laws_toByteS.l0]
    refine evP (by omega) (evP (by omega) (evP (by simp [List.length_append, List.length_take]; omega) ?_))
    rw [Int.toNat_natCast, set_copy l _ i rfl (by omega)]
    exact ih
theorem toByteS_ev (l : List Int) (hl : l.length ≤ 281474976710656) : Ev (fun k => laws_toByteS.f k l) l := by
  have h := toByteS_loop l (by omega) l.length 0 (by omega) (by omega)
  simpa [laws_toByteS.f, hl] using h

theorem eq_drop (a b : List Int) (i : Nat) (ha : i < a.length) (hb : i < b.length) : decide (a.drop i = b.drop i) = (decide (rd a i = rd b i) && decide (a.drop (i + 1) = b.drop (i + 1))) := by
  rw [drop_cons a i ha, drop_cons b i hb]
  by_cases h : rd a i = rd b i <;> simp [h]
theorem eqByteS_loop (a b : List Int) (hab : a.length = b.length) (hl : a.length ≤ 9223372036854775807) (n : Nat) : ∀ (i : Nat), i ≤ a.length → a.length - i = n →
    Ev (fun k => laws_eqByteS.l0 k a b i) (decide (a.drop i = b.drop i)) := by
  induction n with
  | zero =>
    intro i hi hn
    apply evPre
    simp only [laws_eqByteS.l0]
    refine evN (by omega) ?_
    rw [List.drop_eq_nil_of_le (by omega), List.drop_eq_nil_of_le (by omega)]
    simpa using Ev.now true
  | succ n ih =>
    intro i hi hn
    have ih := ih (i + 1) (by omega) (by omega)
    rw [show ((i + 1 : Nat) : Int) = wrap64 ((i : Int) + 1) from by rw [w64 (by omega) (by omega)]; simp] at ih
    apply evPre
    simp only [laws_eqByteS.l0]
    rw [eq_drop a b i (by omega) (by omega)]
    refine evP (by omega) (evP (by omega) (evP (by omega) ?_))
    by_cases h : rd a i = rd b i
    · refine evP h (evC ih ?_); simp [h]
    · refine evN h (evC (Ev.now _) ?_); simp [h]
theorem eqByteS_ev (a b : List Int) (hl : a.length ≤ 9223372036854775807) : Ev (fun k => laws_eqByteS.f k a b) (decide (a = b)) := by
  unfold laws_eqByteS.f
  by_cases h : a.length = b.length
  · have h1 := eqByteS_loop a b h hl a.length 0 (by omega) (by omega)
    refine evP (by omega) ?_
    simpa using h1
  · refine evN (by omega) (evC (Ev.now _) ?_)
    have : a ≠ b := fun e => h (by rw [e])
    simp [this]

end Go.Proofs.YtkfcmpalbhmmaaaDoor.Q
