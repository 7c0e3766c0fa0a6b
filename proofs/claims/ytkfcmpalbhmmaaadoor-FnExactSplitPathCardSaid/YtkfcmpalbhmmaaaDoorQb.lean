/- NameOk: what the program's and the reference's functions answer, in plain words. No condition. -/
import Derived.Test.YtkfcmpalbhmmaaaDoorQa
import Derived.Test.YtkfcmpalbhmmaaaDoorPx1
namespace Go.Proofs.YtkfcmpalbhmmaaaDoor.Q
open Go.RowKit Go.Proofs.YtkfcmpalbhmmaaaDoor.P Go.Proofs.YtkfcmpalbhmmaaaDoorW.PrintWords Go.Proofs.YtkfcmpalbhmmaaaDoorW.PrintLast Go.Proofs.YtkfcmpalbhmmaaaDoorW.PrintMore

def goodc (c : Int) : Bool := decide (97 ≤ c ∧ c ≤ 122 ∨ 48 ≤ c ∧ c ≤ 57 ∨ c = 95 ∨ c = 45 ∨ c = 46)
/-- What is asked of a name beside its letters. -/
def nameEnd (s : ByteArray) : Bool := decide (1 ≤ s.size ∧ s.size ≤ 14) && s.toList != ([46] : List UInt8) && s.toList != ([46, 46] : List UInt8)
def nameOk (s : ByteArray) : Bool := (bytesOf s).all goodc && nameEnd s

theorem spec_in (a b c : Int) : spec_l1In.f a b c = some (decide (b ≤ a ∧ a ≤ c)) := by
  unfold spec_l1In.f
  by_cases h : a ≥ b
  · rw [if_pos h]; simp [show b ≤ a from h]
  · rw [if_neg h]; simp [show ¬ b ≤ a from h]

theorem nameEnd_spec (s : ByteArray) : ((spec_l1In.f (s.size : Int) 1 14).bind fun t101 => (if t101 = true then (if s.toList = ([46] : List UInt8) then (some false) else (some (s.toList != ([46, 46] : List UInt8)))) else (some false))) = some (nameEnd s) := by
  rw [spec_in]
  simp only [Option.bind_some, nameEnd]
  by_cases h : 1 ≤ s.size ∧ s.size ≤ 14
  · rw [if_pos (by simp; omega)]
    by_cases h1 : s.toList = [46]
    · simp [h1]
    · rw [if_neg h1]; simp [h, h1]
  · rw [if_neg (by simp; omega)]; simp [h]
theorem nameEnd_impl (s : ByteArray) : (if (s.size : Int) ≥ 1 then (if (s.size : Int) ≤ 14 then (if s.toList = ([46] : List UInt8) then (some false) else (some (s.toList != ([46, 46] : List UInt8)))) else (some false)) else (some false)) = some (nameEnd s) := by
  unfold nameEnd
  by_cases h : 1 ≤ s.size
  · rw [if_pos (by omega)]
    by_cases h2 : s.size ≤ 14
    · rw [if_pos (by omega)]
      by_cases h1 : s.toList = [46]
      · simp [h1]
      · rw [if_neg h1]; simp [h, h2, h1]
    · rw [if_neg (by omega)]; simp [h2]
  · rw [if_neg (by omega)]; simp [h]

theorem drop_bytes (s : ByteArray) (i : Nat) (h : i < s.size) : (bytesOf s).drop i = bt s i :: (bytesOf s).drop (i + 1) := by
  rw [drop_cons _ _ (by rw [bytesOf_length]; exact h), rd_bytesOf]

theorem spec_name_loop (s : ByteArray) (hs : s.size ≤ 9223372036854775807) (n : Nat) : ∀ (i : Nat), i ≤ s.size → s.size - i = n →
    Ev (fun k => spec_NameOk.l0 k s i) (((bytesOf s).drop i).all goodc && nameEnd s) := by
  induction n with
  | zero =>
    intro i hi hn
    apply evPre
    simp only [spec_NameOk.l0]
    refine evN (by omega) ?_
    rw [nameEnd_spec, List.drop_eq_nil_of_le (by rw [bytesOf_length]; omega)]
    simpa using Ev.now _
  | succ n ih =>
    intro i hi hn
    have hlt : i < s.size := by omega
    have hr := bt_range s i
    have ih := ih (i + 1) (by omega) (by omega)
    rw [show ((i + 1 : Nat) : Int) = wrap64 ((i : Int) + 1) from by rw [w64 (by omega) (by omega)]; simp] at ih
    apply evPre
    simp only [spec_NameOk.l0, spec_in, Option.bind_some]
    rw [drop_bytes s i hlt, List.all_cons]
    refine evP (by omega) (evP (by omega) ?_)
    rw [w64 (by omega) (by omega)]
    generalize bt s i = c at *
    by_cases h1 : 97 ≤ c ∧ c ≤ 122
    · refine evP (by simp [h1]) (evC ih ?_); simp [goodc, h1]
    refine evN (by simp; omega) ?_
    by_cases h2 : 48 ≤ c ∧ c ≤ 57
    · refine evP (by simp [h2]) (evC ih ?_); simp [goodc, h2]
    refine evN (by simp; omega) ?_
    by_cases h3 : c = 95
    · refine evP h3 (evC ih ?_); simp [goodc, h3]
    refine evN h3 ?_
    by_cases h4 : c = 45
    · refine evP h4 (evC ih ?_); simp [goodc, h4]
    refine evN h4 ?_
    by_cases h5 : c = 46
    · refine evP h5 (evC ih ?_); simp [goodc, h5]
    refine evN h5 (evC (Ev.now _) ?_)
    have : goodc c = false := by simp [goodc]; omega
    simp [this]
theorem spec_name (s : ByteArray) (hs : s.size ≤ 9223372036854775807) : Ev (fun k => spec_NameOk.f k s) (nameOk s) := by
  have h := spec_name_loop s hs s.size 0 (by omega) (by omega)
  simpa [spec_NameOk.f, nameOk] using h

theorem impl_name_loop (s : ByteArray) (hs : s.size ≤ 9223372036854775807) (n : Nat) : ∀ (i : Nat), i ≤ s.size → s.size - i = n →
    Ev (fun k => impl_NameOk.l0 k s (s.size : Int) i) (((bytesOf s).drop i).all goodc && nameEnd s) := by
  induction n with
  | zero =>
    intro i hi hn
    apply evPre
    simp only [impl_NameOk.l0]
    refine evN (by omega) ?_
    rw [nameEnd_impl, List.drop_eq_nil_of_le (by rw [bytesOf_length]; omega)]
    simpa using Ev.now _
  | succ n ih =>
    intro i hi hn
    have hlt : i < s.size := by omega
    have hr := bt_range s i
    have ih := ih (i + 1) (by omega) (by omega)
    rw [show ((i + 1 : Nat) : Int) = wrap64 ((i : Int) + 1) from by rw [w64 (by omega) (by omega)]; simp] at ih
    apply evPre
    simp only [impl_NameOk.l0]
    rw [drop_bytes s i hlt, List.all_cons]
    refine evP (by omega) (evP (by omega) (evP (by omega) ?_))
    generalize bt s i = c at *
    by_cases hg : goodc c = true
    · have e : (((bytesOf s).drop (i + 1)).all goodc && nameEnd s) = (goodc c && ((bytesOf s).drop (i + 1)).all goodc && nameEnd s) := by simp [hg]
      replace ih := evC ih e
      simp only [goodc, decide_eq_true_eq] at hg
      repeat (first | exact ih | refine evI' (fun _ => ?_) (fun _ => ?_) | (exfalso; omega))
    · have e : false = (goodc c && ((bytesOf s).drop (i + 1)).all goodc && nameEnd s) := by simp [hg]
      have no := evC (Ev.now false) e
      simp only [goodc, decide_eq_true_eq] at hg
      repeat (first | exact no | refine evI' (fun _ => ?_) (fun _ => ?_) | (exfalso; omega))
theorem impl_name (s : ByteArray) (hs : s.size ≤ 9223372036854775807) : Ev (fun k => impl_NameOk.f k s) (nameOk s) := by
  have h := impl_name_loop s hs s.size 0 (by omega) (by omega)
  simpa [impl_NameOk.f, nameOk] using h
end Go.Proofs.YtkfcmpalbhmmaaaDoor.Q
