/- What the functions that the law reaches answer, in plain words. No condition. -/
import Derived.Laws.BitsLemmas
import Derived.Sort.Walk0
import Derived.Test.YtolkhimbfegkkaaGreatKinds
import Derived.Test.YtolkhimbfegkkaaGreatPx0
import Derived.Test.YtolkhimbfegkkaaGreatPx1
import Derived.Test.YtolkhimbfegkkaaGreatPx10
import Derived.Test.YtolkhimbfegkkaaGreatPx11
import Derived.Test.YtolkhimbfegkkaaGreatPx12
import Derived.Test.YtolkhimbfegkkaaGreatPx13
import Derived.Test.YtolkhimbfegkkaaGreatPx14
import Derived.Test.YtolkhimbfegkkaaGreatPx15
import Derived.Test.YtolkhimbfegkkaaGreatPx16
import Derived.Test.YtolkhimbfegkkaaGreatPx17
import Derived.Test.YtolkhimbfegkkaaGreatPx18
import Derived.Test.YtolkhimbfegkkaaGreatPx19
import Derived.Test.YtolkhimbfegkkaaGreatPx2
import Derived.Test.YtolkhimbfegkkaaGreatPx20
import Derived.Test.YtolkhimbfegkkaaGreatPx21
import Derived.Test.YtolkhimbfegkkaaGreatPx22
import Derived.Test.YtolkhimbfegkkaaGreatPx3
import Derived.Test.YtolkhimbfegkkaaGreatPx4
import Derived.Test.YtolkhimbfegkkaaGreatPx5
import Derived.Test.YtolkhimbfegkkaaGreatPx6
import Derived.Test.YtolkhimbfegkkaaGreatPx7
import Derived.Test.YtolkhimbfegkkaaGreatPx8
import Derived.Test.YtolkhimbfegkkaaGreatPx9
import Derived.Test.YtolkhimbfegkkaaGreatWMore
set_option linter.unusedVariables false
set_option linter.unusedSimpArgs false
namespace Go.Proofs.YtolkhimbfegkkaaGreat.Q
open Go.RowKit Go.Proofs.YtolkhimbfegkkaaGreatW.PrintWords Go.Proofs.YtolkhimbfegkkaaGreatW.PrintLast Go.Proofs.YtolkhimbfegkkaaGreatW.PrintMore

theorem evPre {α : Type} {g : Nat → Option α} {r : α} (h : Ev (fun k => g (k + 1)) r) : Ev g r := by
  obtain ⟨K, h⟩ := h
  refine ⟨K + 1, fun n hn => ?_⟩
  obtain ⟨m, rfl⟩ : ∃ m, n = m + 1 := ⟨n - 1, by omega⟩
  exact h m (by omega)
theorem evP {α : Type} {c : Prop} [Decidable c] {A B : Nat → Option α} {r : α} (hc : c) (h : Ev A r) : Ev (fun k => if c then A k else B k) r := by
  simpa only [if_pos hc] using h
theorem evN {α : Type} {c : Prop} [Decidable c] {A B : Nat → Option α} {r : α} (hc : ¬ c) (h : Ev B r) : Ev (fun k => if c then A k else B k) r := by
  simpa only [if_neg hc] using h
theorem evI' {α : Type} {c : Prop} [Decidable c] {A B : Nat → Option α} {r : α} (hp : c → Ev A r) (hn : ¬ c → Ev B r) : Ev (fun k => if c then A k else B k) r := by
  by_cases hc : c
  · simpa only [if_pos hc] using hp hc
  · simpa only [if_neg hc] using hn hc
theorem evC {α : Type} {g : Nat → Option α} {r s : α} (h : Ev g r) (e : r = s) : Ev g s := e ▸ h

theorem w64 {n : Int} (h0 : -9223372036854775808 ≤ n) (h1 : n ≤ 9223372036854775807) : wrap64 n = n := by
  unfold wrap64
  omega
/-- All bytes. -/
def Byt (l : List Int) : Prop := ∀ x ∈ l, 0 ≤ x ∧ x ≤ 255
theorem Byt.rd {l : List Int} (h : Byt l) (i : Int) : 0 ≤ rd l i ∧ rd l i ≤ 255 := by
  unfold Go.Proofs.YtolkhimbfegkkaaGreatW.PrintWords.rd
  rw [List.getD_eq_getElem?_getD]
  by_cases hi : i.toNat < l.length
  · rw [List.getElem?_eq_getElem hi]
    exact h _ (List.getElem_mem hi)
  · rw [List.getElem?_eq_none (by omega)]
    simp
theorem drop_cons (l : List Int) (i : Nat) (h : i < l.length) : l.drop i = rd l i :: l.drop (i + 1) := by
  rw [List.drop_eq_getElem_cons h]
  simp [Go.Proofs.YtolkhimbfegkkaaGreatW.PrintWords.rd, List.getElem?_eq_getElem h]
end Go.Proofs.YtolkhimbfegkkaaGreat.Q
namespace Go.Proofs.YtolkhimbfegkkaaGreat.Q
open Go.RowKit Go.Proofs.YtolkhimbfegkkaaGreat.P Go.Proofs.YtolkhimbfegkkaaGreatW.PrintWords Go.Proofs.YtolkhimbfegkkaaGreatW.PrintLast Go.Proofs.YtolkhimbfegkkaaGreatW.PrintMore

def goodc (c : Int) : Bool := decide (97 ≤ c ∧ c ≤ 122 ∨ 48 ≤ c ∧ c ≤ 57 ∨ c = 95 ∨ c = 45 ∨ c = 46)
/-- What is asked of a name beside its letters. -/
def nameEnd (s : ByteArray) : Bool := decide (1 ≤ s.size ∧ s.size ≤ 14) && s.toList != ([46] : List UInt8) && s.toList != ([46, 46] : List UInt8)
def nameOk (s : ByteArray) : Bool := (bytesOf s).all goodc && nameEnd s

theorem spec_in (a b c : Int) : spec_l1In.f a b c = some (decide (b ≤ a ∧ a ≤ c)) := by
  unfold spec_l1In.f
  by_cases h : a ≥ b
  · rw [if_pos h]; simp [show b ≤ a from h]
  · rw [if_neg h]; simp [show ¬ b ≤ a from h]

theorem nameEnd_spec (s : ByteArray) : ((spec_l1In.f (s.size : Int) 1 14).bind fun t101 => (if t101 = true then (if s.toList = ([46] : List UInt8) then (some false) else (some (s.toList != ([46, 46] : List UInt8)))) else (some false))) = some (nameEnd s) := by
  rw [spec_in]
  simp only [Option.bind_some, nameEnd]
  by_cases h : 1 ≤ s.size ∧ s.size ≤ 14
  · rw [if_pos (by simp; omega)]
    by_cases h1 : s.toList = [46]
    · simp [h1]
    · rw [if_neg h1]; simp [h, h1]
  · rw [if_neg (by simp; omega)]; simp [h]
theorem nameEnd_impl (s : ByteArray) : (if (s.size : Int) ≥ 1 then (if (s.size : Int) ≤ 14 then (if s.toList = ([46] : List UInt8) then (some false) else (some (s.toList != ([46, 46] : List UInt8)))) else (some false)) else (some false)) = some (nameEnd s) := by
  unfold nameEnd
  by_cases h : 1 ≤ s.size
  · rw [if_pos (by omega)]
    by_cases h2 : s.size ≤ 14
    · rw [if_pos (by omega)]
      by_cases h1 : s.toList = [46]
      · simp [h1]
      · rw [if_neg h1]; simp [h, h2, h1]
    · rw [if_neg (by omega)]; simp [h2]
  · rw [if_neg (by omega)]; simp [h]

theorem drop_bytes (s : ByteArray) (i : Nat) (h : i < s.size) : (bytesOf s).drop i = bt s i :: (bytesOf s).drop (i + 1) := by
  rw [drop_cons _ _ (by rw [bytesOf_length]; exact h), rd_bytesOf]

theorem spec_name_loop (s : ByteArray) (hs : s.size ≤ 9223372036854775807) (n : Nat) : ∀ (i : Nat), i ≤ s.size → s.size - i = n →
    Ev (fun k => spec_NameOk.l0 k s i) (((bytesOf s).drop i).all goodc && nameEnd s) := by
  induction n with
  | zero =>
    intro i hi hn
    apply evPre
    simp only [spec_NameOk.l0]
    refine evN (by omega) ?_
    rw [nameEnd_spec, List.drop_eq_nil_of_le (by rw [bytesOf_length]; omega)]
    simpa using Ev.now _
  | succ n ih =>
    intro i hi hn
    have hlt : i < s.size := by omega
    have hr := bt_range s i
    have ih := ih (i + 1) (by omega) (by omega)
    rw [show ((i + 1 : Nat) : Int) = wrap64 ((i : Int) + 1) from by rw [w64 (by omega) (by omega)]; simp] at ih
    apply evPre
    simp only [spec_NameOk.l0, spec_in, Option.bind_some]
    rw [drop_bytes s i hlt, List.all_cons]
    refine evP (by omega) (evP (by omega) ?_)
    rw [w64 (by omega) (by omega)]
    generalize bt s i = c at *
    by_cases h1 : 97 ≤ c ∧ c ≤ 122
    · refine evP (by simp [h1]) (evC ih ?_); simp [goodc, h1]
    refine evN (by simp; omega) ?_
    by_cases h2 : 48 ≤ c ∧ c ≤ 57
    · refine evP (by simp [h2]) (evC ih ?_); simp [goodc, h2]
    refine evN (by simp; omega) ?_
    by_cases h3 : c = 95
    · refine evP h3 (evC ih ?_); simp [goodc, h3]
    refine evN h3 ?_
    by_cases h4 : c = 45
    · refine evP h4 (evC ih ?_); simp [goodc, h4]
    refine evN h4 ?_
    by_cases h5 : c = 46
    · refine evP h5 (evC ih ?_); simp [goodc, h5]
    refine evN h5 (evC (Ev.now _) ?_)
    have : goodc c = false := by simp [goodc]; omega
    simp [this]
theorem spec_name (s : ByteArray) (hs : s.size ≤ 9223372036854775807) : Ev (fun k => spec_NameOk.f k s) (nameOk s) := by
  have h := spec_name_loop s hs s.size 0 (by omega) (by omega)
  simpa [spec_NameOk.f, nameOk] using h

theorem impl_name_loop (s : ByteArray) (hs : s.size ≤ 9223372036854775807) (n : Nat) : ∀ (i : Nat), i ≤ s.size → s.size - i = n →
    Ev (fun k => impl_NameOk.l0 k s (s.size : Int) i) (((bytesOf s).drop i).all goodc && nameEnd s) := by
  induction n with
  | zero =>
    intro i hi hn
    apply evPre
    simp only [impl_NameOk.l0]
    refine evN (by omega) ?_
    rw [nameEnd_impl, List.drop_eq_nil_of_le (by rw [bytesOf_length]; omega)]
    simpa using Ev.now _
  | succ n ih =>
    intro i hi hn
    have hlt : i < s.size := by omega
    have hr := bt_range s i
    have ih := ih (i + 1) (by omega) (by omega)
    rw [show ((i + 1 : Nat) : Int) = wrap64 ((i : Int) + 1) from by rw [w64 (by omega) (by omega)]; simp] at ih
    apply evPre
    simp only [impl_NameOk.l0]
    rw [drop_bytes s i hlt, List.all_cons]
    refine evP (by omega) (evP (by omega) (evP (by omega) ?_))
    generalize bt s i = c at *
    by_cases hg : goodc c = true
    · have e : (((bytesOf s).drop (i + 1)).all goodc && nameEnd s) = (goodc c && ((bytesOf s).drop (i + 1)).all goodc && nameEnd s) := by simp [hg]
      replace ih := evC ih e
      simp only [goodc, decide_eq_true_eq] at hg
      repeat (first | exact ih | refine evI' (fun _ => ?_) (fun _ => ?_) | (exfalso; omega))
    · have e : false = (goodc c && ((bytesOf s).drop (i + 1)).all goodc && nameEnd s) := by simp [hg]
      have no := evC (Ev.now false) e
      simp only [goodc, decide_eq_true_eq] at hg
      repeat (first | exact no | refine evI' (fun _ => ?_) (fun _ => ?_) | (exfalso; omega))
theorem impl_name (s : ByteArray) (hs : s.size ≤ 9223372036854775807) : Ev (fun k => impl_NameOk.f k s) (nameOk s) := by
  have h := impl_name_loop s hs s.size 0 (by omega) (by omega)
  simpa [impl_NameOk.f, nameOk] using h
end Go.Proofs.YtolkhimbfegkkaaGreat.Q
namespace Go.Proofs.YtolkhimbfegkkaaGreat.Q
open Go.RowKit Go.Proofs.YtolkhimbfegkkaaGreat.P Go.Proofs.YtolkhimbfegkkaaGreatW.PrintWords Go.Proofs.YtolkhimbfegkkaaGreatW.PrintLast Go.Proofs.YtolkhimbfegkkaaGreatW.PrintMore

theorem set_copy (l : List Int) (n i : Nat) (hn : n = l.length) (hi : i < n) : (l.take i ++ List.replicate (n - i) 0).set i (rd l i) = l.take (i + 1) ++ List.replicate (n - (i + 1)) 0 := by
  subst hn
  rw [List.set_append, if_neg (by rw [List.length_take]; omega), show i - (l.take i).length = 0 from by rw [List.length_take]; omega]
  obtain ⟨m, hm⟩ : ∃ m, l.length - i = m + 1 := ⟨l.length - i - 1, by omega⟩
  rw [hm, List.replicate_succ, List.set_cons_zero, show l.length - (i + 1) = m from by omega, List.take_succ_eq_append_getElem hi, List.append_assoc]
  have : rd l i = l[i] := by simp [Go.Proofs.YtolkhimbfegkkaaGreatW.PrintWords.rd, List.getElem?_eq_getElem hi]
  rw [this]
  rfl
theorem toByteS_loop (l : List Int) (hl : l.length ≤ 9223372036854775807) (n : Nat) : ∀ (i : Nat), i ≤ l.length → l.length - i = n →
    Ev (fun k => laws_toByteS.l0 k l (l.take i ++ List.replicate (l.length - i) 0) i) l := by
  induction n with
  | zero =>
    intro i hi hn
    apply evPre
    simp only [laws_toByteS.l0]
    refine evN (by omega) ?_
    rw [List.take_of_length_le (by omega), hn]
    simpa using Ev.now l
  | succ n ih =>
    intro i hi hn
    have ih := ih (i + 1) (by omega) (by omega)
    rw [show ((i + 1 : Nat) : Int) = wrap64 ((i : Int) + 1) from by rw [w64 (by omega) (by omega)]; simp] at ih
    apply evPre
    simp only [laws_toByteS.l0]
    refine evP (by omega) (evP (by omega) (evP (by simp [List.length_append, List.length_take]; omega) ?_))
    rw [Int.toNat_natCast, set_copy l _ i rfl (by omega)]
    exact ih
theorem toByteS_ev (l : List Int) (hl : l.length ≤ 281474976710656) : Ev (fun k => laws_toByteS.f k l) l := by
  have h := toByteS_loop l (by omega) l.length 0 (by omega) (by omega)
  simpa [laws_toByteS.f, hl] using h

theorem eq_drop (a b : List Int) (i : Nat) (ha : i < a.length) (hb : i < b.length) : decide (a.drop i = b.drop i) = (decide (rd a i = rd b i) && decide (a.drop (i + 1) = b.drop (i + 1))) := by
  rw [drop_cons a i ha, drop_cons b i hb]
  by_cases h : rd a i = rd b i <;> simp [h]
theorem eqByteS_loop (a b : List Int) (hab : a.length = b.length) (hl : a.length ≤ 9223372036854775807) (n : Nat) : ∀ (i : Nat), i ≤ a.length → a.length - i = n →
    Ev (fun k => laws_eqByteS.l0 k a b i) (decide (a.drop i = b.drop i)) := by
  induction n with
  | zero =>
    intro i hi hn
    apply evPre
    simp only [laws_eqByteS.l0]
    refine evN (by omega) ?_
    rw [List.drop_eq_nil_of_le (by omega), List.drop_eq_nil_of_le (by omega)]
    simpa using Ev.now true
  | succ n ih =>
    intro i hi hn
    have ih := ih (i + 1) (by omega) (by omega)
    rw [show ((i + 1 : Nat) : Int) = wrap64 ((i : Int) + 1) from by rw [w64 (by omega) (by omega)]; simp] at ih
    apply evPre
    simp only [laws_eqByteS.l0]
    rw [eq_drop a b i (by omega) (by omega)]
    refine evP (by omega) (evP (by omega) (evP (by omega) ?_))
    by_cases h : rd a i = rd b i
    · refine evP h (evC ih ?_); simp [h]
    · refine evN h (evC (Ev.now _) ?_); simp [h]
theorem eqByteS_ev (a b : List Int) (hl : a.length ≤ 9223372036854775807) : Ev (fun k => laws_eqByteS.f k a b) (decide (a = b)) := by
  unfold laws_eqByteS.f
  by_cases h : a.length = b.length
  · have h1 := eqByteS_loop a b h hl a.length 0 (by omega) (by omega)
    refine evP (by omega) ?_
    simpa using h1
  · refine evN (by omega) (evC (Ev.now _) ?_)
    have : a ≠ b := fun e => h (by rw [e])
    simp [this]

end Go.Proofs.YtolkhimbfegkkaaGreat.Q
namespace Go.Proofs.YtolkhimbfegkkaaGreat.Q
open Go.RowKit Go.Proofs.YtolkhimbfegkkaaGreatW.PrintWords Go.Proofs.YtolkhimbfegkkaaGreatW.PrintLast Go.Proofs.YtolkhimbfegkkaaGreatW.PrintMore

theorem set_copy_of {α β : Type} (xs : List α) (f : α → β) (z : β) (i : Nat) (hi : i < xs.length) :
    ((xs.take i).map f ++ List.replicate (xs.length - i) z).set i (f xs[i]) = (xs.take (i + 1)).map f ++ List.replicate (xs.length - (i + 1)) z := by
  rw [List.set_append, if_neg (by simp; omega)]
  obtain ⟨m, hm⟩ : ∃ m, xs.length - i = m + 1 := ⟨xs.length - i - 1, by omega⟩
  rw [hm, List.replicate_succ, show i - ((xs.take i).map f).length = 0 from by simp; omega, List.set_cons_zero, show xs.length - (i + 1) = m from by omega, List.take_succ_eq_append_getElem hi, List.map_append, List.append_assoc]
  rfl
theorem ev_copy {α β : Type} (L : Nat → List β → Int → Option (List β)) (xs : List α) (f : α → β) (z : β)
    (h1 : ∀ ys : List β, Ev (fun k => L k ys (xs.length : Nat)) ys)
    (h2 : ∀ (i : Nat) (hi : i < xs.length) (ys : List β), ys.length = xs.length → ∀ R, Ev (fun k => L k (ys.set i (f xs[i])) ((i + 1 : Nat) : Int)) R → Ev (fun k => L k ys (i : Nat)) R) :
    Ev (fun k => L k (List.replicate xs.length z) 0) (xs.map f) := by
  have key : ∀ n i : Nat, xs.length - i = n → i ≤ xs.length → Ev (fun k => L k ((xs.take i).map f ++ List.replicate (xs.length - i) z) (i : Nat)) (xs.map f) := by
    intro n
    induction n with
    | zero =>
      intro i hn hi
      obtain rfl : i = xs.length := by omega
      simpa using h1 (xs.map f)
    | succ n ih =>
      intro i hn hi
      refine h2 i (by omega) _ (by simp; omega) _ ?_
      rw [set_copy_of xs f z i (by omega)]
      exact ih (i + 1) (by omega) (by omega)
  simpa using key xs.length 0 (by omega) (by omega)
/-- A loop over places that goes on at each of them. -/
theorem ev_scan {γ : Type} (L : Nat → Int → Option γ) (n : Nat) (R : γ) (h1 : Ev (fun k => L k (n : Nat)) R) (h2 : ∀ i : Nat, i < n → Ev (fun k => L k ((i + 1 : Nat) : Int)) R → Ev (fun k => L k (i : Nat)) R) : Ev (fun k => L k 0) R := by
  have key : ∀ m i : Nat, n - i = m → i ≤ n → Ev (fun k => L k (i : Nat)) R := by
    intro m
    induction m with
    | zero =>
      intro i hm hi
      obtain rfl : i = n := by omega
      exact h1
    | succ m ih =>
      intro i hm hi
      exact h2 i (by omega) (ih (i + 1) (by omega) (by omega))
  simpa using key n 0 (by omega) (by omega)
theorem getD_at {α : Type} (xs : List α) (z : α) (i : Nat) (hi : i < xs.length) : xs.getD ((i : Nat) : Int).toNat z = xs[i] := by
  simp [List.getD_eq_getElem?_getD, List.getElem?_eq_getElem hi]
/-- A loop over places with a number that is carried on; what holds of it (I), and what the loop answers (Z). -/
theorem ev_carry {γ : Type} (L : Nat → Int → Int → Option γ) (n : Nat) (I : Nat → Int → Prop) (Z : γ → Prop) (h1 : ∀ a, I n a → ∃ R, Ev (fun k => L k a (n : Nat)) R ∧ Z R)
    (h2 : ∀ (i : Nat) (a : Int), i < n → I i a → (∃ R, Ev (fun k => L k a (i : Nat)) R ∧ Z R) ∨ ∃ b, I (i + 1) b ∧ ∀ R, Ev (fun k => L k b ((i + 1 : Nat) : Int)) R → Ev (fun k => L k a (i : Nat)) R) (a : Int) (ha : I 0 a) : ∃ R, Ev (fun k => L k a 0) R ∧ Z R := by
  have key : ∀ m i : Nat, n - i = m → i ≤ n → ∀ a, I i a → ∃ R, Ev (fun k => L k a (i : Nat)) R ∧ Z R := by
    intro m
    induction m with
    | zero =>
      intro i hm hi a ha
      obtain rfl : i = n := by omega
      exact h1 a ha
    | succ m ih =>
      intro i hm hi a ha
      rcases h2 i a (by omega) ha with h | ⟨b, hb, h⟩
      · exact h
      · obtain ⟨R, hR, hZ⟩ := ih (i + 1) (by omega) (by omega) b hb
        exact ⟨R, h R hR, hZ⟩
  simpa using key n 0 (by omega) (by omega) a ha
end Go.Proofs.YtolkhimbfegkkaaGreat.Q
namespace Go.Proofs.YtolkhimbfegkkaaGreat.Q
open Go.RowKit Go.Proofs.YtolkhimbfegkkaaGreat.P Go.Proofs.YtolkhimbfegkkaaGreatW.PrintWords Go.Proofs.YtolkhimbfegkkaaGreatW.PrintLast Go.Proofs.YtolkhimbfegkkaaGreatW.PrintMore

/-- n marks from k on. -/
def marks (n : Nat) (k : Int) : List Int := (List.range n).map fun (i : Nat) => (k + (i : Int)) % 256
theorem marks_length (n : Nat) (k : Int) : (marks n k).length = n := by simp [marks]
theorem mark_set (xs : List Int) (k : Int) (i : Nat) (h : i < xs.length) : (marks i k ++ xs.drop i).set i ((k + i) % 256) = marks (i + 1) k ++ xs.drop (i + 1) := by
  rw [List.set_append, if_neg (by rw [marks_length]; omega), marks_length, Nat.sub_self, List.drop_eq_getElem_cons h, List.set_cons_zero]
  simp [marks, List.range_succ]
theorem mark_loop (xs : List Int) (k0 : Int) (hk : 0 ≤ k0) (hk1 : k0 + xs.length ≤ 9223372036854775807) (n : Nat) : ∀ (i : Nat), i ≤ xs.length → xs.length - i = n →
    Ev (fun k => laws_markByteS.l0 k (marks i k0 ++ xs.drop i) (k0 + i) i) (k0 + xs.length, marks xs.length k0) := by
  induction n with
  | zero =>
    intro i hi hn
    apply evPre
    simp only [laws_markByteS.l0]
    obtain rfl : i = xs.length := by omega
    refine evN (by simp [marks_length]) (evC (Ev.now _) ?_)
    simp
  | succ n ih =>
    intro i hi hn
    have ih := ih (i + 1) (by omega) (by omega)
    rw [show ((i + 1 : Nat) : Int) = (i : Int) + 1 from by omega] at ih
    apply evPre
    simp only [laws_markByteS.l0]
    refine evP (by simp [marks_length]; omega) (evP (by omega) ?_)
    rw [Int.toNat_natCast, mark_set xs k0 i (by omega), w64 (n := k0 + (i : Int) + 1) (by omega) (by omega), w64 (n := (i : Int) + 1) (by omega) (by omega), Int.add_assoc]
    exact ih
theorem markByteS_ev (xs : List Int) (k0 : Int) (hk : 0 ≤ k0) (hk1 : k0 + xs.length ≤ 9223372036854775807) : Ev (fun k => laws_markByteS.f k xs k0) (k0 + xs.length, marks xs.length k0) := by
  have h := mark_loop xs k0 hk hk1 xs.length 0 (by omega) (by omega)
  simpa [laws_markByteS.f, marks] using h
end Go.Proofs.YtolkhimbfegkkaaGreat.Q
namespace Go.Proofs.YtolkhimbfegkkaaGreat.Q
open Go.RowKit Go.Proofs.YtolkhimbfegkkaaGreat.P Go.Proofs.YtolkhimbfegkkaaGreatW.PrintWords Go.Proofs.YtolkhimbfegkkaaGreatW.PrintLast Go.Proofs.YtolkhimbfegkkaaGreatW.PrintMore

def iEnt (x : S105) : S63 := ⟨x.f0, x.f1⟩
def iAttr (x : S107) : S87 := ⟨x.f0, x.f1⟩
theorem nxt (i : Nat) (n : Nat) (hi : i < n) (hn : n ≤ 9223372036854775807) : wrap64 ((i : Int) + 1) = ((i + 1 : Nat) : Int) := by
  rw [w64 (by omega) (by omega)]; omega
theorem toEntS_ev (l : List S105) (hl : l.length ≤ 11728124029610) : Ev (fun k => laws_toEntS.f k l) (l.map iEnt) := by
  unfold laws_toEntS.f
  refine evP (by omega) (evP (by omega) ?_)
  rw [Int.toNat_natCast]
  refine ev_copy (fun k ys i => laws_toEntS.l0 k l ys i) l iEnt _ (fun ys => ?_) (fun i hi ys hy R h => ?_)
  · apply evPre
    simp only [laws_toEntS.l0]
    exact evN (by omega) (Ev.now _)
  · apply evPre
    simp only [laws_toEntS.l0, laws_toEnt.f, Option.bind_some]
    refine evP (by omega) (evP (by omega) (evP (by omega) ?_))
    rw [nxt i l.length hi (by omega), Int.toNat_natCast]
    simp only [rd_T105, getD_at l _ i hi]
    exact h
theorem toAttrS_ev (l : List S107) (hl : l.length ≤ 8796093022208) : Ev (fun k => laws_toAttrS.f k l) (l.map iAttr) := by
  unfold laws_toAttrS.f
  refine evP (by omega) (evP (by omega) ?_)
  rw [Int.toNat_natCast]
  refine ev_copy (fun k ys i => laws_toAttrS.l0 k l ys i) l iAttr _ (fun ys => ?_) (fun i hi ys hy R h => ?_)
  · apply evPre
    simp only [laws_toAttrS.l0]
    exact evN (by omega) (Ev.now _)
  · apply evPre
    simp only [laws_toAttrS.l0, laws_toAttr.f, Option.bind_some]
    refine evP (by omega) (evP (by omega) (evP (by omega) ?_))
    rw [nxt i l.length hi (by omega), Int.toNat_natCast]
    simp only [rd_T107, getD_at l _ i hi]
    exact h
theorem toInode_ev (a b c : Int) (d : List Int) (e : List S105) (t : List S107) (hd : d.length ≤ 1048576) (he : e.length ≤ 1048576) (ht : t.length ≤ 1048576) :
    Ev (fun k => laws_toInode.f k a b c d e t) (a, b, c, d, e.map iEnt, t.map iAttr) := by
  unfold laws_toInode.f
  exact Ev.bind (toByteS_ev d (by omega)) (Ev.bind (toEntS_ev e (by omega)) (Ev.bind (toAttrS_ev t (by omega)) (Ev.now _)))
theorem eqEntS_refl (l : List S63) (hl : l.length ≤ 9223372036854775807) : Ev (fun k => laws_eqEntS.f k l l) true := by
  unfold laws_eqEntS.f
  refine evP rfl (ev_scan (fun k i => laws_eqEntS.l0 k l l i) l.length true ?_ (fun i hi h => ?_))
  · apply evPre
    simp only [laws_eqEntS.l0]
    exact evN (by omega) (Ev.now _)
  · apply evPre
    simp only [laws_eqEntS.l0, laws_eqEnt.f, if_true, Option.bind_some]
    refine evP (by omega) (evP (by omega) (evP (by omega) ?_))
    rw [nxt i l.length hi hl]
    exact h
theorem eqAttrS_refl (l : List S87) (hl : l.length ≤ 9223372036854775807) : Ev (fun k => laws_eqAttrS.f k l l) true := by
  unfold laws_eqAttrS.f
  refine evP rfl (ev_scan (fun k i => laws_eqAttrS.l0 k l l i) l.length true ?_ (fun i hi h => ?_))
  · apply evPre
    simp only [laws_eqAttrS.l0]
    exact evN (by omega) (Ev.now _)
  · apply evPre
    simp only [laws_eqAttrS.l0, laws_eqAttr.f, if_true, Option.bind_some]
    refine evP (by omega) (evP (by omega) (evP (by omega) ?_))
    rw [nxt i l.length hi hl]
    exact h
theorem eqInode_refl (a b c : Int) (d : List Int) (e : List S63) (t : List S87) (hd : d.length ≤ 9223372036854775807) (he : e.length ≤ 9223372036854775807) (ht : t.length ≤ 9223372036854775807) :
    Ev (fun k => laws_eqInode.f k a b c d e t a b c d e t) true := by
  unfold laws_eqInode.f
  refine evP rfl (evP rfl (evP rfl (Ev.bind (eqByteS_ev d d hd) (evP (by simp) (Ev.bind (eqEntS_refl e he) (evP rfl (Ev.bind (eqAttrS_refl t ht) (evP rfl (Ev.now _)))))))))

/-- What is left of a size, and is not below 0, bounds what was counted. -/
theorem szByteS_ev (d : List Int) (n : Int) (h0 : 0 ≤ n) (h1 : n ≤ 1048576) (hd : d.length ≤ 9223372036854775807) : ∃ R, laws_szByteS.f d n = some R ∧ (0 ≤ R → R = n - d.length) ∧ R ≤ n := by
  unfold laws_szByteS.f
  rw [w64 (by omega) (by omega)]
  by_cases h : n - (d.length : Int) < 0
  · rw [if_pos h]; exact ⟨_, rfl, fun h => by omega, by omega⟩
  · rw [if_neg h]; exact ⟨_, rfl, fun _ => rfl, by omega⟩
def entSz (l : List S105) : Nat := (l.map fun e => e.f0.size).sum
def attrSz (l : List S107) : Nat := (l.map fun e => e.f0.size + e.f1.size).sum
theorem sum_take {α : Type} (f : α → Nat) (l : List α) (i : Nat) (hi : i < l.length) : ((l.take (i + 1)).map f).sum = ((l.take i).map f).sum + f l[i] := by
  rw [List.take_succ_eq_append_getElem hi, List.map_append, List.sum_append]; simp
theorem szEntS_ev (l : List S105) (n : Int) (h0 : 0 ≤ n) (h1 : n ≤ 1048576) (hl : l.length ≤ 9223372036854775807) (hg : ∀ e ∈ l, e.f0.size ≤ 9223372036854775807) :
    ∃ R, Ev (fun k => laws_szEntS.f k l n) R ∧ (0 ≤ R → R = n - l.length - entSz l) ∧ R ≤ n := by
  unfold laws_szEntS.f
  rw [w64 (by omega) (by omega)]
  by_cases h : n - (l.length : Int) < 0
  · exact ⟨-1, evP h (Ev.now _), fun h => by omega, by omega⟩
  · obtain ⟨R, hR, hZ⟩ := ev_carry (fun k a i => laws_szEntS.l0 k l a i) l.length (fun i a => 0 ≤ a ∧ a = n - l.length - ((l.take i).map fun e => e.f0.size).sum) (fun R => (0 ≤ R → R = n - l.length - entSz l) ∧ R ≤ n)
      (fun a ha => ⟨a, by
        apply evPre
        simp only [laws_szEntS.l0]
        exact evN (by omega) (Ev.now _), fun _ => by rw [ha.2, List.take_length]; rfl, by omega⟩)
      (fun i a hi ha => by
        have hm := hg l[i] (List.getElem_mem hi)
        have hs := sum_take (fun e : S105 => e.f0.size) l i hi
        by_cases hlt : a - (l[i].f0.size : Int) < 0
        · refine .inl ⟨-1, ?_, fun h => by omega, by omega⟩
          apply evPre
          simp only [laws_szEntS.l0, laws_szEnt.f, rd_T105, getD_at l _ i hi]
          rw [w64 (n := a - (l[i].f0.size : Int)) (by omega) (by omega), if_pos hlt]
          simp only [Option.bind_some]
          exact evP (by omega) (evP (by omega) (evP (by omega) (Ev.now _)))
        · refine .inr ⟨a - (l[i].f0.size : Int), ⟨by omega, by rw [hs]; omega⟩, fun R h => ?_⟩
          apply evPre
          simp only [laws_szEntS.l0, laws_szEnt.f, rd_T105, getD_at l _ i hi]
          rw [w64 (n := a - (l[i].f0.size : Int)) (by omega) (by omega), if_neg hlt]
          simp only [Option.bind_some]
          refine evP (by omega) (evP (by omega) (evN (by omega) ?_))
          rw [nxt i l.length hi hl]
          exact h) (n - l.length) ⟨by omega, by simp⟩
    exact ⟨R, evN h hR, hZ⟩
theorem szAttrS_ev (l : List S107) (n : Int) (h0 : 0 ≤ n) (h1 : n ≤ 1048576) (hl : l.length ≤ 9223372036854775807) (hg : ∀ e ∈ l, e.f0.size ≤ 9223372036854775807 ∧ e.f1.size ≤ 9223372036854775807) :
    ∃ R, Ev (fun k => laws_szAttrS.f k l n) R ∧ (0 ≤ R → R = n - l.length - attrSz l) ∧ R ≤ n := by
  unfold laws_szAttrS.f
  rw [w64 (by omega) (by omega)]
  by_cases h : n - (l.length : Int) < 0
  · exact ⟨-1, evP h (Ev.now _), fun h => by omega, by omega⟩
  · obtain ⟨R, hR, hZ⟩ := ev_carry (fun k a i => laws_szAttrS.l0 k l a i) l.length (fun i a => 0 ≤ a ∧ a = n - l.length - ((l.take i).map fun e => e.f0.size + e.f1.size).sum) (fun R => (0 ≤ R → R = n - l.length - attrSz l) ∧ R ≤ n)
      (fun a ha => ⟨a, by
        apply evPre
        simp only [laws_szAttrS.l0]
        exact evN (by omega) (Ev.now _), fun _ => by rw [ha.2, List.take_length]; rfl, by omega⟩)
      (fun i a hi ha => by
        have hm := hg l[i] (List.getElem_mem hi)
        have hs := sum_take (fun e : S107 => e.f0.size + e.f1.size) l i hi
        by_cases hlt : a - (l[i].f0.size : Int) < 0
        · refine .inl ⟨-1, ?_, fun h => by omega, by omega⟩
          apply evPre
          simp only [laws_szAttrS.l0, laws_szAttr.f, rd_T107, getD_at l _ i hi]
          rw [w64 (n := a - (l[i].f0.size : Int)) (by omega) (by omega), if_pos hlt]
          simp only [Option.bind_some]
          exact evP (by omega) (evP (by omega) (evP (by omega) (Ev.now _)))
        · by_cases hlt2 : a - (l[i].f0.size : Int) - (l[i].f1.size : Int) < 0
          · refine .inl ⟨-1, ?_, fun h => by omega, by omega⟩
            apply evPre
            simp only [laws_szAttrS.l0, laws_szAttr.f, rd_T107, getD_at l _ i hi]
            rw [w64 (n := a - (l[i].f0.size : Int)) (by omega) (by omega), if_neg hlt, w64 (n := a - (l[i].f0.size : Int) - (l[i].f1.size : Int)) (by omega) (by omega), if_pos hlt2]
            simp only [Option.bind_some]
            exact evP (by omega) (evP (by omega) (evP (by omega) (Ev.now _)))
          · refine .inr ⟨a - (l[i].f0.size : Int) - (l[i].f1.size : Int), ⟨by omega, by rw [hs]; omega⟩, fun R h => ?_⟩
            apply evPre
            simp only [laws_szAttrS.l0, laws_szAttr.f, rd_T107, getD_at l _ i hi]
            rw [w64 (n := a - (l[i].f0.size : Int)) (by omega) (by omega), if_neg hlt, w64 (n := a - (l[i].f0.size : Int) - (l[i].f1.size : Int)) (by omega) (by omega), if_neg hlt2]
            simp only [Option.bind_some]
            refine evP (by omega) (evP (by omega) (evN (by omega) ?_))
            rw [nxt i l.length hi hl]
            exact h) (n - l.length) ⟨by omega, by simp⟩
    exact ⟨R, evN h hR, hZ⟩
def inodeSz (d : List Int) (e : List S105) (t : List S107) : Nat := d.length + e.length + entSz e + t.length + attrSz t
theorem szInode_ev (a b c : Int) (d : List Int) (e : List S105) (t : List S107) (n : Int) (h0 : 0 ≤ n) (h1 : n ≤ 1048576) (hd : d.length ≤ 9223372036854775807) (he : e.length ≤ 9223372036854775807) (ht : t.length ≤ 9223372036854775807)
    (ge : ∀ x ∈ e, x.f0.size ≤ 9223372036854775807) (gt : ∀ x ∈ t, x.f0.size ≤ 9223372036854775807 ∧ x.f1.size ≤ 9223372036854775807) :
    ∃ R, Ev (fun k => laws_szInode.f k a b c d e t n) R ∧ (0 ≤ R → R = n - inodeSz d e t) ∧ R ≤ n := by
  unfold laws_szInode.f
  obtain ⟨R1, e1, z1, l1⟩ := szByteS_ev d n h0 h1 hd
  simp only [e1, Option.bind_some]
  by_cases c1 : R1 < 0
  · exact ⟨-1, evP c1 (Ev.now _), fun h => by omega, by omega⟩
  obtain ⟨R2, e2, z2, l2⟩ := szEntS_ev e R1 (by omega) (by omega) he ge
  by_cases c2 : R2 < 0
  · exact ⟨-1, evN c1 (Ev.bind e2 (evP c2 (Ev.now _))), fun h => by omega, by omega⟩
  obtain ⟨R3, e3, z3, l3⟩ := szAttrS_ev t R2 (by omega) (by omega) ht gt
  by_cases c3 : R3 < 0
  · exact ⟨-1, evN c1 (Ev.bind e2 (evN c2 (Ev.bind e3 (evP c3 (Ev.now _))))), fun h => by omega, by omega⟩
  · refine ⟨R3, evN c1 (Ev.bind e2 (evN c2 (Ev.bind e3 (evN c3 (Ev.now _))))), fun h => ?_, by omega⟩
    have := z1 (by omega)
    have := z2 (by omega)
    have := z3 (by omega)
    unfold inodeSz
    omega
end Go.Proofs.YtolkhimbfegkkaaGreat.Q
namespace Go.Proofs.YtolkhimbfegkkaaGreat.Q
open Go.RowKit Go.Proofs.YtolkhimbfegkkaaGreat.P Go.Proofs.YtolkhimbfegkkaaGreatW.PrintWords Go.Proofs.YtolkhimbfegkkaaGreatW.PrintLast Go.Proofs.YtolkhimbfegkkaaGreatW.PrintMore

/-- From the end to the begin. -/
theorem down {n : Nat} {P : Nat → Prop} (h1 : P n) (h2 : ∀ i, i < n → P (i + 1) → P i) : P 0 := by
  have key : ∀ m i : Nat, n - i = m → i ≤ n → P i := by
    intro m
    induction m with
    | zero => intro i hm hi; obtain rfl : i = n := by omega
              exact h1
    | succ m ih => intro i hm hi; exact h2 i (by omega) (ih (i + 1) (by omega) (by omega))
  exact key n 0 (by omega) (by omega)

def iInode (x : S59) : S47 := ⟨x.f0, x.f1, x.f2, x.f3, x.f4.map iEnt, x.f5.map iAttr⟩
/-- An inode whose lists and names are of a size that one can hold. -/
def InoB (x : S59) : Prop := x.f3.length ≤ 1048576 ∧ x.f4.length ≤ 1048576 ∧ x.f5.length ≤ 1048576
theorem toInodeS_ev (l : List S59) (hl : l.length ≤ 1048576) (hb : ∀ x ∈ l, InoB x) : Ev (fun k => laws_toInodeS.f k l) (l.map iInode) := by
  unfold laws_toInodeS.f
  refine evP (by omega) (evP (by omega) ?_)
  rw [Int.toNat_natCast]
  refine ev_copy (fun k ys i => laws_toInodeS.l0 k l ys i) l iInode _ (fun ys => ?_) (fun i hi ys hy R h => ?_)
  · apply evPre
    simp only [laws_toInodeS.l0]
    exact evN (by omega) (Ev.now _)
  · have hB := hb l[i] (List.getElem_mem hi)
    have ht := toInode_ev l[i].f0 l[i].f1 l[i].f2 l[i].f3 l[i].f4 l[i].f5 hB.1 hB.2.1 hB.2.2
    apply evPre
    simp only [laws_toInodeS.l0, rd_T59, getD_at l _ i hi]
    refine evP (by omega) (evP (by omega) (Ev.bind ht (evP (by omega) ?_)))
    rw [nxt i l.length hi (by omega), Int.toNat_natCast]
    exact h
theorem toTab_ev (l : List S59) (n : Int) (hl : l.length ≤ 1048576) (hb : ∀ x ∈ l, InoB x) : Ev (fun k => laws_toTab.f k l n) (l.map iInode, n) := by
  unfold laws_toTab.f
  exact Ev.bind (toInodeS_ev l hl hb) (Ev.now _)
theorem eqInodeS_refl (l : List S47) (hl : l.length ≤ 9223372036854775807) (hb : ∀ x ∈ l, x.f3.length ≤ 9223372036854775807 ∧ x.f4.length ≤ 9223372036854775807 ∧ x.f5.length ≤ 9223372036854775807) : Ev (fun k => laws_eqInodeS.f k l l) true := by
  unfold laws_eqInodeS.f
  refine evP rfl ?_
  refine ev_scan (fun k i => laws_eqInodeS.l0 k l l i) l.length true ?_ (fun i hi h => ?_)
  · apply evPre
    simp only [laws_eqInodeS.l0]
    exact evN (by omega) (Ev.now _)
  · have hB := hb l[i] (List.getElem_mem hi)
    apply evPre
    simp only [laws_eqInodeS.l0, rd_T47, getD_at l _ i hi]
    refine evP (by omega) (evP (by omega) (evP (by omega) (Ev.bind (eqInode_refl _ _ _ _ _ _ hB.1 hB.2.1 hB.2.2) (evP rfl ?_))))
    rw [nxt i l.length hi hl]
    exact h
theorem eqTab_refl (l : List S47) (n : Int) (hl : l.length ≤ 9223372036854775807) (hb : ∀ x ∈ l, x.f3.length ≤ 9223372036854775807 ∧ x.f4.length ≤ 9223372036854775807 ∧ x.f5.length ≤ 9223372036854775807) : Ev (fun k => laws_eqTab.f k l n l n) true := by
  unfold laws_eqTab.f
  exact Ev.bind (eqInodeS_refl l hl hb) (evP rfl (evP rfl (Ev.now _)))
theorem iInode_b (l : List S59) (hb : ∀ x ∈ l, InoB x) : ∀ x ∈ l.map iInode, x.f3.length ≤ 9223372036854775807 ∧ x.f4.length ≤ 9223372036854775807 ∧ x.f5.length ≤ 9223372036854775807 := by
  intro x hx
  obtain ⟨y, hy, rfl⟩ := List.mem_map.1 hx
  have := hb y hy
  unfold InoB at this
  simp only [iInode, List.length_map]
  omega

/-- An inode that could be read. -/
def InoM (x : S59) : Prop := x.f3.length ≤ 9223372036854775807 ∧ x.f4.length ≤ 9223372036854775807 ∧ x.f5.length ≤ 9223372036854775807 ∧ (∀ e ∈ x.f4, e.f0.size ≤ 9223372036854775807) ∧ (∀ e ∈ x.f5, e.f0.size ≤ 9223372036854775807 ∧ e.f1.size ≤ 9223372036854775807)
def inoSz (x : S59) : Nat := inodeSz x.f3 x.f4 x.f5
def tabSz (l : List S59) : Nat := l.length + (l.map inoSz).sum
theorem szInodeS_ev (l : List S59) (n : Int) (h0 : 0 ≤ n) (h1 : n ≤ 1048576) (hl : l.length ≤ 9223372036854775807) (hg : ∀ x ∈ l, InoM x) :
    ∃ R, Ev (fun k => laws_szInodeS.f k l n) R ∧ (0 ≤ R → R = n - tabSz l) ∧ R ≤ n := by
  unfold laws_szInodeS.f
  rw [w64 (by omega) (by omega)]
  by_cases h : n - (l.length : Int) < 0
  · exact ⟨-1, evP h (Ev.now _), fun h => by omega, by omega⟩
  · obtain ⟨R, hR, hZ⟩ := ev_carry (fun k a i => laws_szInodeS.l0 k l a i) l.length (fun i a => 0 ≤ a ∧ a ≤ n ∧ a = n - l.length - ((l.take i).map inoSz).sum) (fun R => (0 ≤ R → R = n - tabSz l) ∧ R ≤ n)
      (fun a ha => ⟨a, by
        apply evPre
        simp only [laws_szInodeS.l0]
        exact evN (by omega) (Ev.now _), fun _ => by rw [ha.2.2, List.take_length]; unfold tabSz; omega, by omega⟩)
      (fun i a hi ha => by
        obtain ⟨m1, m2, m3, m4, m5⟩ := hg l[i] (List.getElem_mem hi)
        have hs := sum_take inoSz l i hi
        obtain ⟨R1, e1, z1, l1⟩ := szInode_ev l[i].f0 l[i].f1 l[i].f2 l[i].f3 l[i].f4 l[i].f5 a ha.1 (by omega) m1 m2 m3 m4 m5
        by_cases hlt : R1 < 0
        · refine .inl ⟨-1, ?_, fun h => by omega, by omega⟩
          apply evPre
          simp only [laws_szInodeS.l0, rd_T59, getD_at l _ i hi]
          exact evP (by omega) (evP (by omega) (Ev.bind e1 (evP hlt (Ev.now _))))
        · have z1 := z1 (by omega)
          refine .inr ⟨R1, ⟨by omega, by omega, by rw [hs]; unfold inoSz at *; omega⟩, fun R h => ?_⟩
          apply evPre
          simp only [laws_szInodeS.l0, rd_T59, getD_at l _ i hi]
          refine evP (by omega) (evP (by omega) (Ev.bind e1 (evN hlt ?_)))
          rw [nxt i l.length hi hl]
          exact h) (n - l.length) ⟨by omega, by omega, by simp⟩
    exact ⟨R, evN h hR, hZ⟩
theorem szTab_ev (l : List S59) (nx n : Int) (h0 : 0 ≤ n) (h1 : n ≤ 1048576) (hl : l.length ≤ 9223372036854775807) (hg : ∀ x ∈ l, InoM x) :
    ∃ R, Ev (fun k => laws_szTab.f k l nx n) R ∧ (0 ≤ R → R = n - tabSz l) ∧ R ≤ n := by
  obtain ⟨R, e, z, h⟩ := szInodeS_ev l n h0 h1 hl hg
  unfold laws_szTab.f
  by_cases c : R < 0
  · exact ⟨-1, Ev.bind e (evP c (Ev.now _)), fun h => by omega, by omega⟩
  · exact ⟨R, Ev.bind e (evN c (Ev.now _)), z, h⟩
theorem mem_le_sum {α : Type} (f : α → Nat) (l : List α) (x : α) (h : x ∈ l) : f x ≤ (l.map f).sum := by
  induction l with
  | nil => cases h
  | cons y l ih =>
    rw [List.map_cons, List.sum_cons]
    rcases List.mem_cons.1 h with rfl | h
    · omega
    · have := ih h; omega
/-- What is known of an inode of a table that is small enough. -/
structure InoS (x : S59) : Prop where
  d : x.f3.length ≤ 1048576
  e : x.f4.length ≤ 1048576
  t : x.f5.length ≤ 1048576
  en : ∀ y ∈ x.f4, y.f0.size ≤ 1048576
  tn : ∀ y ∈ x.f5, y.f0.size ≤ 1048576 ∧ y.f1.size ≤ 1048576
theorem inoS_of (x : S59) (h : inoSz x ≤ 1048576) : InoS x := by
  unfold inoSz inodeSz at h
  refine ⟨by omega, by omega, by omega, fun y hy => ?_, fun y hy => ?_⟩
  · have := mem_le_sum (fun e : S105 => e.f0.size) x.f4 y hy
    unfold entSz at h
    omega
  · have := mem_le_sum (fun e : S107 => e.f0.size + e.f1.size) x.f5 y hy
    unfold attrSz at h
    omega
theorem tab_small (l : List S59) (h : tabSz l ≤ 1048576) : l.length ≤ 1048576 ∧ ∀ x ∈ l, InoS x := by
  unfold tabSz at h
  refine ⟨by omega, fun x hx => inoS_of x ?_⟩
  have := mem_le_sum inoSz l x hx
  omega
end Go.Proofs.YtolkhimbfegkkaaGreat.Q
namespace Go.Proofs.YtolkhimbfegkkaaGreat.Q
open Go.RowKit Go.Proofs.YtolkhimbfegkkaaGreat.P Go.Proofs.YtolkhimbfegkkaaGreatW.PrintWords Go.Proofs.YtolkhimbfegkkaaGreatW.PrintLast Go.Proofs.YtolkhimbfegkkaaGreatW.PrintMore

def lessB (a b : ByteArray) : Bool := Op.bytesLess a.toList b.toList
def upTo (p : Option ByteArray) (s : ByteArray) : Bool := match p with | none => true | some q => lessB q s
def entsR : Option ByteArray → List S63 → Bool
  | _, [] => true
  | p, e :: l => nameOk e.f0 && decide (2 ≤ e.f1 ∧ e.f1 ≤ 1000) && upTo p e.f0 && entsR (some e.f0) l
def attrsR : Option ByteArray → List S87 → Bool
  | _, [] => true
  | p, e :: l => nameOk e.f0 && decide (1 ≤ e.f1.size ∧ e.f1.size ≤ 16) && upTo p e.f0 && attrsR (some e.f0) l
def entPrev (l : List S63) (i : Nat) : Option ByteArray := if i = 0 then none else some (rd_T63 l ((i : Int) - 1)).f0
def attrPrev (l : List S87) (i : Nat) : Option ByteArray := if i = 0 then none else some (rd_T87 l ((i : Int) - 1)).f0
theorem entPrev_next (l : List S63) (i : Nat) (h : i < l.length) : entPrev l (i + 1) = some l[i].f0 := by
  unfold entPrev
  rw [if_neg (by omega), show (((i + 1 : Nat) : Int) - 1) = (i : Int) from by omega, rd_T63, getD_at l _ i h]
theorem attrPrev_next (l : List S87) (i : Nat) (h : i < l.length) : attrPrev l (i + 1) = some l[i].f0 := by
  unfold attrPrev
  rw [if_neg (by omega), show (((i + 1 : Nat) : Int) - 1) = (i : Int) from by omega, rd_T87, getD_at l _ i h]
def entsOk (l : List S63) : Bool := entsR none l && decide (l.length ≤ 10)
def attrsOk (l : List S87) : Bool := attrsR none l && decide (l.length ≤ 4)

theorem spec_ents (l : List S63) (hl : l.length ≤ 1048576) (hn : ∀ e ∈ l, e.f0.size ≤ 1048576) : Ev (fun k => spec_l3Ents.f k l) (entsOk l) := by
  have key : Ev (fun k => spec_l3Ents.l0 k l (0 : Nat)) (entsR (entPrev l 0) (l.drop 0) && decide (l.length ≤ 10)) := by
    refine down (n := l.length) (P := fun i => Ev (fun k => spec_l3Ents.l0 k l (i : Nat)) (entsR (entPrev l i) (l.drop i) && decide (l.length ≤ 10))) ?_ (fun i hi h => ?_)
    · rw [List.drop_length]
      apply evPre
      simp only [spec_l3Ents.l0, entsR]
      refine evN (by omega) (evC (Ev.now _) ?_)
      simp; omega
    · rw [List.drop_eq_getElem_cons hi]
      rw [entPrev_next l i hi] at h
      apply evPre
      simp only [spec_l3Ents.l0]
      refine evP (by omega) ?_
      have hname := spec_name l[i].f0 (by have := hn _ (List.getElem_mem hi); omega)
      have hrd : rd_T63 l (i : Int) = l[i] := getD_at l _ i hi
      rw [hrd, nxt i l.length hi (by omega)]
      simp only [entsR, spec_in, Option.bind_some]
      refine evP (by omega) (Ev.bind hname ?_)
      by_cases c1 : nameOk l[i].f0 = true
      · refine evP c1 ?_
        by_cases c2 : 2 ≤ l[i].f1 ∧ l[i].f1 ≤ 1000
        · refine evP (by simp [c2]) ?_
          by_cases c3 : i = 0
          · subst c3
            refine evN (by omega) (evC h ?_)
            simp [c1, c2, entPrev, upTo]
          · rw [w64 (n := (i : Int) - 1) (by omega) (by omega)]
            have hu : upTo (entPrev l i) l[i].f0 = Op.bytesLess (rd_T63 l ((i : Int) - 1)).f0.toList l[i].f0.toList := by unfold entPrev; rw [if_neg c3]; rfl
            refine evP (by omega) (evP (by omega) (evP (by omega) ?_))
            by_cases c4 : Op.bytesLess (rd_T63 l ((i : Int) - 1)).f0.toList l[i].f0.toList = true
            · refine evP c4 (evC h ?_)
              simp [c1, c2, hu, c4]
            · refine evN c4 (evC (Ev.now _) ?_)
              simp [hu, c4]
        · refine evN (by simp; omega) (evC (Ev.now _) ?_)
          have : decide (2 ≤ l[i].f1 ∧ l[i].f1 ≤ 1000) = false := decide_eq_false c2
          simp [this]
      · refine evN c1 (evC (Ev.now _) ?_)
        simp [c1]
  simpa [spec_l3Ents.f, entsOk, entPrev] using key
theorem spec_attrs (l : List S87) (hl : l.length ≤ 1048576) (hn : ∀ e ∈ l, e.f0.size ≤ 1048576) : Ev (fun k => spec_l3Attrs.f k l) (attrsOk l) := by
  have key : Ev (fun k => spec_l3Attrs.l0 k l (0 : Nat)) (attrsR (attrPrev l 0) (l.drop 0) && decide (l.length ≤ 4)) := by
    refine down (n := l.length) (P := fun i => Ev (fun k => spec_l3Attrs.l0 k l (i : Nat)) (attrsR (attrPrev l i) (l.drop i) && decide (l.length ≤ 4))) ?_ (fun i hi h => ?_)
    · rw [List.drop_length]
      apply evPre
      simp only [spec_l3Attrs.l0, attrsR]
      refine evN (by omega) (evC (Ev.now _) ?_)
      simp; omega
    · rw [List.drop_eq_getElem_cons hi]
      rw [attrPrev_next l i hi] at h
      apply evPre
      simp only [spec_l3Attrs.l0]
      refine evP (by omega) ?_
      have hname := spec_name l[i].f0 (by have := hn _ (List.getElem_mem hi); omega)
      have hrd : rd_T87 l (i : Int) = l[i] := getD_at l _ i hi
      rw [hrd, nxt i l.length hi (by omega)]
      simp only [attrsR, spec_in, Option.bind_some]
      refine evP (by omega) (Ev.bind hname ?_)
      by_cases c1 : nameOk l[i].f0 = true
      · refine evP c1 ?_
        by_cases c2 : 1 ≤ l[i].f1.size ∧ l[i].f1.size ≤ 16
        · refine evP (by simp; omega) ?_
          by_cases c3 : i = 0
          · subst c3
            refine evN (by omega) (evC h ?_)
            simp [c1, c2, attrPrev, upTo]
          · rw [w64 (n := (i : Int) - 1) (by omega) (by omega)]
            have hu : upTo (attrPrev l i) l[i].f0 = Op.bytesLess (rd_T87 l ((i : Int) - 1)).f0.toList l[i].f0.toList := by unfold attrPrev; rw [if_neg c3]; rfl
            refine evP (by omega) (evP (by omega) (evP (by omega) ?_))
            by_cases c4 : Op.bytesLess (rd_T87 l ((i : Int) - 1)).f0.toList l[i].f0.toList = true
            · refine evP c4 (evC h ?_)
              simp [c1, c2, hu, c4]
            · refine evN c4 (evC (Ev.now _) ?_)
              simp [hu, c4]
        · refine evN (by simp; omega) (evC (Ev.now _) ?_)
          have : decide (1 ≤ l[i].f1.size ∧ l[i].f1.size ≤ 16) = false := decide_eq_false c2
          simp [this]
      · refine evN c1 (evC (Ev.now _) ?_)
        simp [c1]
  simpa [spec_l3Attrs.f, attrsOk, attrPrev] using key
theorem impl_fr (a b c : Int) : impl_from.f a b c = some (decide (b ≤ a ∧ a ≤ c)) := by
  unfold impl_from.f
  by_cases h : a ≥ b
  · rw [if_pos h]; simp [show b ≤ a from h]
  · rw [if_neg h]; simp [show ¬ b ≤ a from h]
theorem impl_attrs (l : List S87) (hl : l.length ≤ 1048576) (hn : ∀ e ∈ l, e.f0.size ≤ 1048576) : Ev (fun k => impl_attrsOk.f k l) (attrsOk l) := by
  have key : Ev (fun k => impl_attrsOk.l0 k l l (l.length : Int) (0 : Nat)) (attrsR (attrPrev l 0) (l.drop 0) && decide (l.length ≤ 4)) := by
    refine down (n := l.length) (P := fun i => Ev (fun k => impl_attrsOk.l0 k l l (l.length : Int) (i : Nat)) (attrsR (attrPrev l i) (l.drop i) && decide (l.length ≤ 4))) ?_ (fun i hi h => ?_)
    · rw [List.drop_length]
      apply evPre
      simp only [impl_attrsOk.l0, attrsR]
      refine evN (by omega) (evC (Ev.now _) ?_)
      simp; omega
    · rw [List.drop_eq_getElem_cons hi]
      rw [attrPrev_next l i hi] at h
      apply evPre
      simp only [impl_attrsOk.l0]
      refine evP (by omega) ?_
      have hname := impl_name l[i].f0 (by have := hn _ (List.getElem_mem hi); omega)
      have hrd : rd_T87 l (i : Int) = l[i] := getD_at l _ i hi
      rw [hrd, nxt i l.length hi (by omega)]
      simp only [attrsR, impl_fr, Option.bind_some]
      refine evP (by omega) (evP (by omega) (Ev.bind hname ?_))
      by_cases c1 : nameOk l[i].f0 = true
      · refine evP c1 ?_
        by_cases c2 : 1 ≤ l[i].f1.size ∧ l[i].f1.size ≤ 16
        · refine evP (by simp; omega) ?_
          by_cases c3 : i = 0
          · subst c3
            refine evN (by omega) (evC h ?_)
            simp [c1, c2, attrPrev, upTo]
          · rw [w64 (n := (i : Int) - 1) (by omega) (by omega)]
            have hu : upTo (attrPrev l i) l[i].f0 = Op.bytesLess (rd_T87 l ((i : Int) - 1)).f0.toList l[i].f0.toList := by unfold attrPrev; rw [if_neg c3]; rfl
            refine evP (by omega) (evP (by omega) (evP (by omega) ?_))
            by_cases c4 : Op.bytesLess (rd_T87 l ((i : Int) - 1)).f0.toList l[i].f0.toList = true
            · refine evP c4 (evC h ?_)
              simp [c1, c2, hu, c4]
            · refine evN c4 (evC (Ev.now _) ?_)
              simp [hu, c4]
        · refine evN (by simp; omega) (evC (Ev.now _) ?_)
          have : decide (1 ≤ l[i].f1.size ∧ l[i].f1.size ≤ 16) = false := decide_eq_false c2
          simp [this]
      · refine evN c1 (evC (Ev.now _) ?_)
        simp [c1]
  simpa [impl_attrsOk.f, attrsOk, attrPrev] using key

def kindOk (b c : Int) (d : List Int) (e : List S63) : Bool := if b = 1 then e.length == 0 else if b = 2 then d.length == 0 && decide (c ≤ 1) else false
def inodeOk (a b c : Int) (d : List Int) (e : List S63) (t : List S87) : Bool :=
  decide (1 ≤ a ∧ a ≤ 1000) && decide (0 ≤ c ∧ c ≤ 1000) && ((c == 0) == (a == 1)) && decide (d.length ≤ 100) && entsOk e && attrsOk t && kindOk b c d e
theorem kind_body (b c : Int) (d : List Int) (e : List S63) : (if b = 1 then (some ((e.length : Int) == 0)) else (if b = 2 then (if (d.length : Int) = 0 then (some (decide (c ≤ 1))) else (some false)) else (some false))) = some (kindOk b c d e) := by
  unfold kindOk
  have h1 : ((e.length : Int) == 0) = (e.length == 0) := by rw [Bool.eq_iff_iff]; simp only [beq_iff_eq]; omega
  by_cases hb : b = 1
  · rw [if_pos hb, if_pos hb, h1]
  · rw [if_neg hb, if_neg hb]
    by_cases hb2 : b = 2
    · rw [if_pos hb2, if_pos hb2]
      by_cases hd : d.length = 0
      · rw [if_pos (by omega)]; simp [hd]
      · rw [if_neg (by omega)]; simp [hd]
    · rw [if_neg hb2, if_neg hb2]
theorem ne_eq_not (x y : Bool) : (x != y) = !(x == y) := rfl
theorem spec_inodeOk (a b c : Int) (d : List Int) (e : List S63) (t : List S87) (he : e.length ≤ 1048576) (ht : t.length ≤ 1048576) (hen : ∀ x ∈ e, x.f0.size ≤ 1048576) (htn : ∀ x ∈ t, x.f0.size ≤ 1048576) :
    Ev (fun k => spec_InodeOk.f k a b c d e t) (inodeOk a b c d e t) := by
  unfold spec_InodeOk.f
  simp only [spec_in, Option.bind_some]
  have no : ∀ r : Bool, r = false → Ev (fun k => spec_InodeOk.j0 k true a b c d e t) r := by
    intro r hr
    try (apply evPre; simp only [spec_InodeOk.j0, kind_body])
    exact evP (by simp) (evC (Ev.now _) hr.symm)
  by_cases c1 : 1 ≤ a ∧ a ≤ 1000
  · refine evP (by simp [c1]) ?_
    by_cases c2 : 0 ≤ c ∧ c ≤ 1000
    · refine evP (by simp [c2]) ?_
      by_cases c3 : ((c == 0) == (a == 1)) = true
      · refine evN (by rw [ne_eq_not, c3]; simp) ?_
        by_cases c4 : d.length ≤ 100
        · refine evN (by omega) (Ev.bind (spec_ents e he hen) ?_)
          by_cases c5 : entsOk e = true
          · refine evP c5 (Ev.bind (spec_attrs t ht htn) ?_)
            try (apply evPre; simp only [spec_InodeOk.j0, kind_body])
            by_cases c6 : attrsOk t = true
            · refine evN (by simp [c6]) ?_
              refine evC (Ev.now _) ?_
              unfold inodeOk
              simp only [c1, c2, c3, c4, c5, c6, and_self, decide_true, Bool.true_and]
            · refine evP (by simp [c6]) (evC (Ev.now _) ?_)
              simp [inodeOk, c6]
          · exact evN c5 (no _ (by simp [inodeOk, c5]))
        · exact evP (by omega) (no _ (by simp [inodeOk, c4]))
      · refine evP (by rw [ne_eq_not]; simpa using c3) (no _ ?_)
        unfold inodeOk
        rw [Bool.not_eq_true] at c3
        simp [c3]
    · refine evN (by simp; omega) (no _ ?_)
      have : decide (0 ≤ c ∧ c ≤ 1000) = false := decide_eq_false c2
      simp [inodeOk, this]
  · refine evN (by simp; omega) (no _ ?_)
    have : decide (1 ≤ a ∧ a ≤ 1000) = false := decide_eq_false c1
    simp [inodeOk, this]
theorem impl_inode_loop (a b c : Int) (d : List Int) (l : List S63) (t : List S87) (hl : l.length ≤ 1048576) (hn : ∀ x ∈ l, x.f0.size ≤ 1048576) :
    Ev (fun k => impl_InodeOk.l0 k l (l.length : Int) 0 a b c d l t) (entsR none l && (decide (0 ≤ c ∧ c ≤ 1000) && ((c == 0) == (a == 1)) && kindOk b c d l)) := by
  generalize hE : (decide (0 ≤ c ∧ c ≤ 1000) && ((c == 0) == (a == 1)) && kindOk b c d l) = E
  have key : Ev (fun k => impl_InodeOk.l0 k l (l.length : Int) (0 : Nat) a b c d l t) (entsR (entPrev l 0) (l.drop 0) && E) := by
    refine down (n := l.length) (P := fun i => Ev (fun k => impl_InodeOk.l0 k l (l.length : Int) (i : Nat) a b c d l t) (entsR (entPrev l i) (l.drop i) && E)) ?_ (fun i hi h => ?_)
    · rw [List.drop_length]
      apply evPre
      simp only [impl_InodeOk.l0, entsR, impl_fr, Option.bind_some]
      refine evN (by omega) ?_
      have fin : ∀ x : Bool, (x = !(((c == 0) == (a == 1)) && decide (0 ≤ c ∧ c ≤ 1000))) → Ev (fun k => impl_InodeOk.j2 k x a b c d l t) (true && E) := by
        intro x hx
        try (apply evPre; simp only [impl_InodeOk.j2, kind_body])
        by_cases cx : x = true
        · refine evP cx (evC (Ev.now _) ?_)
          rw [cx] at hx
          have : (((c == 0) == (a == 1)) && decide (0 ≤ c ∧ c ≤ 1000)) = false := by
            cases hz : (((c == 0) == (a == 1)) && decide (0 ≤ c ∧ c ≤ 1000)) with
            | false => rfl
            | true => rw [hz] at hx; exact absurd hx (by decide)
          rw [← hE, Bool.and_comm (decide _), this]
          simp
        · refine evN cx ?_
          refine evC (Ev.now _) ?_
          have : (((c == 0) == (a == 1)) && decide (0 ≤ c ∧ c ≤ 1000)) = true := by cases hz : (((c == 0) == (a == 1)) && decide (0 ≤ c ∧ c ≤ 1000)) <;> simp_all
          rw [← hE, Bool.and_comm (decide _), this]
          simp
      by_cases c2 : 0 ≤ c ∧ c ≤ 1000
      · exact evP (by simp [c2]) (fin _ (by rw [ne_eq_not]; simp [c2]))
      · exact evN (by simp; omega) (fin _ (by have : decide (0 ≤ c ∧ c ≤ 1000) = false := decide_eq_false c2; simp [this]))
    · rw [List.drop_eq_getElem_cons hi]
      rw [entPrev_next l i hi] at h
      apply evPre
      simp only [impl_InodeOk.l0]
      refine evP (by omega) ?_
      have hname := impl_name l[i].f0 (by have := hn _ (List.getElem_mem hi); omega)
      have hrd : rd_T63 l (i : Int) = l[i] := getD_at l _ i hi
      rw [hrd, nxt i l.length hi (by omega)]
      simp only [entsR, impl_fr, Option.bind_some]
      refine evP (by omega) (evP (by omega) (Ev.bind hname ?_))
      by_cases c1 : nameOk l[i].f0 = true
      · refine evP c1 ?_
        by_cases c2 : 2 ≤ l[i].f1 ∧ l[i].f1 ≤ 1000
        · refine evP (by simp [c2]) ?_
          by_cases c3 : i = 0
          · subst c3
            refine evN (by omega) (evC h ?_)
            simp [c1, c2, entPrev, upTo]
          · rw [w64 (n := (i : Int) - 1) (by omega) (by omega)]
            have hu : upTo (entPrev l i) l[i].f0 = Op.bytesLess (rd_T63 l ((i : Int) - 1)).f0.toList l[i].f0.toList := by unfold entPrev; rw [if_neg c3]; rfl
            refine evP (by omega) (evP (by omega) (evP (by omega) ?_))
            by_cases c4 : Op.bytesLess (rd_T63 l ((i : Int) - 1)).f0.toList l[i].f0.toList = true
            · refine evP c4 (evC h ?_)
              simp [c1, c2, hu, c4]
            · refine evN c4 (evC (Ev.now _) ?_)
              simp [hu, c4]
        · refine evN (by simp; omega) (evC (Ev.now _) ?_)
          have : decide (2 ≤ l[i].f1 ∧ l[i].f1 ≤ 1000) = false := decide_eq_false c2
          simp [this]
      · refine evN c1 (evC (Ev.now _) ?_)
        simp [c1]
  simpa [entPrev] using key
theorem impl_inodeOk (a b c : Int) (d : List Int) (e : List S63) (t : List S87) (he : e.length ≤ 1048576) (ht : t.length ≤ 1048576) (hen : ∀ x ∈ e, x.f0.size ≤ 1048576) (htn : ∀ x ∈ t, x.f0.size ≤ 1048576) :
    Ev (fun k => impl_InodeOk.f k a b c d e t) (inodeOk a b c d e t) := by
  unfold impl_InodeOk.f
  simp only [impl_fr, Option.bind_some]
  have no : ∀ r : Bool, r = false → Ev (fun k => impl_InodeOk.j0 k true a b c d e t) r := by
    intro r hr
    try (apply evPre; simp only [impl_InodeOk.j0])
    exact evP (by simp) (evC (Ev.now _) hr.symm)
  by_cases c1 : 1 ≤ a ∧ a ≤ 1000
  · refine evP (by simp [c1]) ?_
    by_cases c4 : d.length ≤ 100
    · refine evN (by omega) ?_
      by_cases c5 : e.length ≤ 10
      · refine evN (by omega) (Ev.bind (impl_attrs t ht htn) ?_)
        try (apply evPre; simp only [impl_InodeOk.j0])
        by_cases c6 : attrsOk t = true
        · refine evN (by simp [c6]) ?_
          refine evC (impl_inode_loop a b c d e t he hen) ?_
          unfold inodeOk entsOk
          simp only [c1, c4, c5, c6, and_self, decide_true, Bool.true_and, Bool.and_true]
          cases entsR none e <;> cases decide (0 ≤ c ∧ c ≤ 1000) <;> cases ((c == 0) == (a == 1)) <;> cases kindOk b c d e <;> rfl
        · refine evP (by simp [c6]) (evC (Ev.now _) ?_)
          simp [inodeOk, c6]
      · exact evP (by omega) (no _ (by simp [inodeOk, entsOk, c5]))
    · exact evP (by omega) (no _ (by simp [inodeOk, c4]))
  · refine evN (by simp; omega) (no _ ?_)
    have : decide (1 ≤ a ∧ a ≤ 1000) = false := decide_eq_false c1
    simp [inodeOk, this]
end Go.Proofs.YtolkhimbfegkkaaGreat.Q
namespace Go.Proofs.YtolkhimbfegkkaaGreat.Q
open Go.RowKit Go.Proofs.YtolkhimbfegkkaaGreat.P Go.Proofs.YtolkhimbfegkkaaGreatW.PrintWords Go.Proofs.YtolkhimbfegkkaaGreatW.PrintLast Go.Proofs.YtolkhimbfegkkaaGreatW.PrintMore

def inOk (x : S47) : Bool := inodeOk x.f0 x.f1 x.f2 x.f3 x.f4 x.f5
def above (p : Option Int) (n : Int) : Bool := match p with | none => true | some q => decide (q < n)
def tabR (nx : Int) : Option Int → List S47 → Bool
  | _, [] => true
  | p, x :: l => inOk x && decide (x.f0 < nx) && above p x.f0 && tabR nx (some x.f0) l
def tabPrev (l : List S47) (i : Nat) : Option Int := if i = 0 then none else some (rd_T47 l ((i : Int) - 1)).f0
theorem tabPrev_next (l : List S47) (i : Nat) (h : i < l.length) : tabPrev l (i + 1) = some l[i].f0 := by
  unfold tabPrev
  rw [if_neg (by omega), show (((i + 1 : Nat) : Int) - 1) = (i : Int) from by omega, rd_T47, getD_at l _ i h]
/-- What is told of an inode of a table. -/
structure InoT (x : S47) : Prop where
  d : x.f3.length ≤ 1048576
  e : x.f4.length ≤ 1048576
  t : x.f5.length ≤ 1048576
  en : ∀ y ∈ x.f4, y.f0.size ≤ 1048576
  tn : ∀ y ∈ x.f5, y.f0.size ≤ 1048576
theorem inOk_pos (x : S47) (h : inOk x = true) : 1 ≤ x.f0 := by
  unfold inOk inodeOk at h
  simp only [Bool.and_eq_true, decide_eq_true_eq] at h
  omega
/-- In a right table behind a number that is at least 1, no inode has the number 1. -/
theorem place_none (nx : Int) (l : List S47) : ∀ (q : Int) (i : Nat), 1 ≤ q → tabR nx (some q) l = true → placeR 1 l i = -1 := by
  induction l with
  | nil => intros; rfl
  | cons x l ih =>
    intro q i hq h
    simp only [tabR, above, Bool.and_eq_true, decide_eq_true_eq] at h
    rw [placeR, if_neg (by omega)]
    exact ih x.f0 (i + 1) (by omega) h.2
theorem place_head (nx : Int) (x : S47) (l : List S47) (h : tabR nx none (x :: l) = true) : placeR 1 (x :: l) 0 = if x.f0 = 1 then 0 else -1 := by
  simp only [tabR, Bool.and_eq_true, decide_eq_true_eq] at h
  rw [placeR]
  split
  · rfl
  · exact place_none nx l x.f0 1 (inOk_pos x h.1.1.1) h.2

def headOk (l : List S47) : Bool := decide ((rd_T47 l 0).f0 = 1) && ((rd_T47 l 0).f1 == 2)
theorem spec_tab_loop (l : List S47) (nx : Int) (hl : l.length ≤ 1048576) (hs : ∀ x ∈ l, InoT x) (hp : 0 < l.length) :
    Ev (fun k => spec_TabOk.l0 k 0 l nx) (tabR nx none l && headOk l) := by
  have key : Ev (fun k => spec_TabOk.l0 k (0 : Nat) l nx) (tabR nx (tabPrev l 0) (l.drop 0) && headOk l) := by
    refine down (n := l.length) (P := fun i => Ev (fun k => spec_TabOk.l0 k (i : Nat) l nx) (tabR nx (tabPrev l i) (l.drop i) && headOk l)) ?_ (fun i hi h => ?_)
    · rw [List.drop_length]
      apply evPre
      simp only [spec_TabOk.l0, tabR]
      refine evN (by omega) (evP (by omega) ?_)
      by_cases c : (rd_T47 l 0).f0 = 1
      · exact evP c (evC (Ev.now _) (by simp [headOk, c]))
      · exact evN c (evC (Ev.now _) (by simp [headOk, c]))
    · rw [List.drop_eq_getElem_cons hi]
      rw [tabPrev_next l i hi] at h
      have hT := hs l[i] (List.getElem_mem hi)
      have ho := spec_inodeOk l[i].f0 l[i].f1 l[i].f2 l[i].f3 l[i].f4 l[i].f5 hT.e hT.t hT.en hT.tn
      have hrd : rd_T47 l (i : Int) = l[i] := getD_at l _ i hi
      apply evPre
      simp only [spec_TabOk.l0, hrd]
      rw [nxt i l.length hi (by omega)]
      refine evP (by omega) (evP (by omega) (Ev.bind ho ?_))
      by_cases c1 : inOk l[i] = true
      · refine evP c1 ?_
        by_cases c2 : l[i].f0 < nx
        · refine evN (by omega) ?_
          by_cases c3 : i = 0
          · subst c3
            refine evN (by omega) (evC h ?_)
            simp [tabR, c1, c2, tabPrev, above]
          · rw [w64 (n := (i : Int) - 1) (by omega) (by omega)]
            refine evP (by omega) (evP (by omega) (evP (by omega) ?_))
            have hu : above (tabPrev l i) l[i].f0 = decide ((rd_T47 l ((i : Int) - 1)).f0 < l[i].f0) := by unfold tabPrev; rw [if_neg c3]; rfl
            by_cases c4 : (rd_T47 l ((i : Int) - 1)).f0 < l[i].f0
            · refine evN (by omega) (evC h ?_)
              simp [tabR, c1, c2, hu, c4]
            · refine evP (by omega) (evC (Ev.now _) ?_)
              simp [tabR, hu, c4]
        · refine evP (by omega) (evC (Ev.now _) ?_)
          simp [tabR, c2]
      · refine evN c1 (evC (Ev.now _) ?_)
        simp [tabR, c1]
  simpa [tabPrev] using key
theorem impl_tab_loop (l : List S47) (nx : Int) (hl : l.length ≤ 1048576) (hs : ∀ x ∈ l, InoT x) (E : Bool) (hE : Ev (fun k => (impl_InodeAt.f k l nx 1).bind fun bt => (if bt.2.2.2.2.2.2 = true then (some (bt.2.1 == 2)) else (some false))) E) :
    Ev (fun k => impl_TabOk.l0 k l (l.length : Int) 0 l nx) (tabR nx none l && E) := by
  have key : Ev (fun k => impl_TabOk.l0 k l (l.length : Int) (0 : Nat) l nx) (tabR nx (tabPrev l 0) (l.drop 0) && E) := by
    refine down (n := l.length) (P := fun i => Ev (fun k => impl_TabOk.l0 k l (l.length : Int) (i : Nat) l nx) (tabR nx (tabPrev l i) (l.drop i) && E)) ?_ (fun i hi h => ?_)
    · rw [List.drop_length]
      apply evPre
      simp only [impl_TabOk.l0, tabR]
      exact evN (by omega) (evC hE (by simp))
    · rw [List.drop_eq_getElem_cons hi]
      rw [tabPrev_next l i hi] at h
      have hT := hs l[i] (List.getElem_mem hi)
      have ho := impl_inodeOk l[i].f0 l[i].f1 l[i].f2 l[i].f3 l[i].f4 l[i].f5 hT.e hT.t hT.en hT.tn
      have hrd : rd_T47 l (i : Int) = l[i] := getD_at l _ i hi
      apply evPre
      simp only [impl_TabOk.l0, hrd]
      rw [nxt i l.length hi (by omega)]
      refine evP (by omega) (evP (by omega) (evP (by omega) (Ev.bind ho ?_)))
      by_cases c1 : inOk l[i] = true
      · refine evP c1 ?_
        by_cases c2 : l[i].f0 < nx
        · refine evN (by omega) ?_
          by_cases c3 : i = 0
          · subst c3
            refine evN (by omega) (evC h ?_)
            simp [tabR, c1, c2, tabPrev, above]
          · rw [w64 (n := (i : Int) - 1) (by omega) (by omega)]
            refine evP (by omega) (evP (by omega) (evP (by omega) ?_))
            have hu : above (tabPrev l i) l[i].f0 = decide ((rd_T47 l ((i : Int) - 1)).f0 < l[i].f0) := by unfold tabPrev; rw [if_neg c3]; rfl
            by_cases c4 : (rd_T47 l ((i : Int) - 1)).f0 < l[i].f0
            · refine evN (by omega) (evC h ?_)
              simp [tabR, c1, c2, hu, c4]
            · refine evP (by omega) (evC (Ev.now _) ?_)
              simp [tabR, hu, c4]
        · refine evP (by omega) (evC (Ev.now _) ?_)
          simp [tabR, c2]
      · refine evN c1 (evC (Ev.now _) ?_)
        simp [tabR, c1]
  simpa [tabPrev] using key
theorem copy_inode (x : S47) (h : InoT x) : impl_copyInode.f x.f0 x.f1 x.f2 x.f3 x.f4 x.f5 = some (x.f0, x.f1, x.f2, x.f3, x.f4, x.f5) := by
  have hd := h.d; have he := h.e; have ht := h.t
  have a : slices_Clone_byte_byte.f x.f3 = some x.f3 := by unfold slices_Clone_byte_byte.f; simp; omega
  have b : slices_Clone_Ent.f x.f4 = some x.f4 := by unfold slices_Clone_Ent.f; simp; omega
  have c : slices_Clone_Attr.f x.f5 = some x.f5 := by unfold slices_Clone_Attr.f; simp; omega
  unfold impl_copyInode.f
  rw [a, Option.bind_some, b, Option.bind_some, c, Option.bind_some]
def tabOk (l : List S47) (nx : Int) : Bool := decide (1 ≤ l.length ∧ l.length ≤ 30) && decide (2 ≤ nx ∧ nx ≤ 1000) && (tabR nx none l && headOk l)
theorem placeR_range (ino : Int) (l : List S47) : ∀ i : Nat, placeR ino l i = -1 ∨ ((i : Int) ≤ placeR ino l i ∧ placeR ino l i < i + l.length) := by
  induction l with
  | nil => intro i; exact .inl rfl
  | cons x l ih =>
    intro i
    rw [placeR]
    split
    · right; simp only [List.length_cons]; omega
    · rcases ih (i + 1) with h | h
      · exact .inl h
      · right; simp only [List.length_cons]; omega
def atOk (l : List S47) : Bool := if placeR 1 l 0 < 0 then false else ((rd_T47 l (placeR 1 l 0)).f1 == 2)
theorem at_one (l : List S47) (nx : Int) (hl : l.length ≤ 1048576) (hs : ∀ x ∈ l, InoT x) :
    Ev (fun k => (impl_InodeAt.f k l nx 1).bind fun bt => (if bt.2.2.2.2.2.2 = true then (some (bt.2.1 == 2)) else (some false))) (atOk l) := by
  unfold impl_InodeAt.f impl_placeOf.f atOk
  rw [if_pos (by omega)]
  simp only [Option.bind_some]
  by_cases c : placeR 1 l 0 < 0
  · simp only [if_pos c, Option.bind_some]
    exact Ev.now _
  · simp only [if_neg c]
    have hr := placeR_range 1 l 0
    obtain ⟨n, hn⟩ : ∃ n : Nat, placeR 1 l 0 = n := ⟨(placeR 1 l 0).toNat, by omega⟩
    rw [hn] at hr c ⊢
    have hlt : n < l.length := by omega
    have hrd : rd_T47 l (n : Int) = l[n] := getD_at l _ n hlt
    simp only [hrd, copy_inode l[n] (hs _ (List.getElem_mem hlt)), Option.bind_some]
    rw [if_pos (by omega), if_pos (by omega)]
    simp only [Option.bind_some, if_true]
    exact Ev.now _
theorem at_head (nx : Int) (l : List S47) (hp : 0 < l.length) : (tabR nx none l && atOk l) = (tabR nx none l && headOk l) := by
  cases h : tabR nx none l with
  | false => rfl
  | true =>
    cases l with
    | nil => simp at hp
    | cons x l =>
      have hh := place_head nx x l h
      simp only [Bool.true_and, atOk, headOk, hh]
      have h0 : rd_T47 (x :: l) 0 = x := rfl
      by_cases c : x.f0 = 1
      · simp [c, h0]
      · simp [c, h0]
theorem spec_tabOk (l : List S47) (nx : Int) (hl : l.length ≤ 1048576) (hs : ∀ x ∈ l, InoT x) : Ev (fun k => spec_TabOk.f k l nx) (tabOk l nx) := by
  unfold spec_TabOk.f tabOk
  simp only [spec_in, Option.bind_some]
  have no : ∀ r : Bool, r = false → Ev (fun k => spec_TabOk.j0 k true l nx) r := by
    intro r hr
    apply evPre
    simp only [spec_TabOk.j0]
    exact evP (by simp) (evC (Ev.now _) hr.symm)
  by_cases c1 : 1 ≤ l.length ∧ l.length ≤ 30
  · refine evP (by simp; omega) ?_
    by_cases c2 : 2 ≤ nx ∧ nx ≤ 1000
    · apply evPre
      simp only [spec_TabOk.j0]
      refine evN (by simp [c2]) (evC (spec_tab_loop l nx hl hs (by omega)) ?_)
      simp [c1, c2]
    · rw [show decide (2 ≤ nx ∧ nx ≤ 1000) = false from decide_eq_false c2]
      exact no _ (by simp)
  · refine evN (by simp; omega) (no _ ?_)
    rw [show decide (1 ≤ l.length ∧ l.length ≤ 30) = false from decide_eq_false c1]
    rfl
theorem impl_tabOk (l : List S47) (nx : Int) (hl : l.length ≤ 1048576) (hs : ∀ x ∈ l, InoT x) : Ev (fun k => impl_TabOk.f k l nx) (tabOk l nx) := by
  unfold impl_TabOk.f tabOk
  simp only [impl_fr, Option.bind_some]
  have no : ∀ r : Bool, r = false → Ev (fun k => impl_TabOk.j0 k true l nx) r := by
    intro r hr
    apply evPre
    simp only [impl_TabOk.j0]
    exact evP (by simp) (evC (Ev.now _) hr.symm)
  by_cases c1 : l.length ≤ 30
  · refine evN (by omega) ?_
    by_cases c2 : 2 ≤ nx ∧ nx ≤ 1000
    · apply evPre
      simp only [impl_TabOk.j0]
      refine evN (by simp [c2]) (evC (impl_tab_loop l nx hl hs _ (at_one l nx hl hs)) ?_)
      by_cases c0 : 1 ≤ l.length
      · rw [at_head nx l c0]; simp [c0, c1, c2]
      · obtain rfl : l = [] := List.eq_nil_of_length_eq_zero (by omega)
        simp [tabR, atOk, placeR]
    · rw [show decide (2 ≤ nx ∧ nx ≤ 1000) = false from decide_eq_false c2]
      exact no _ (by simp)
  · refine evP (by omega) (no _ ?_)
    rw [show decide (1 ≤ l.length ∧ l.length ≤ 30) = false from decide_eq_false (by omega)]
    rfl
end Go.Proofs.YtolkhimbfegkkaaGreat.Q
namespace Go.Proofs.YtolkhimbfegkkaaGreat.Q
open Go.RowKit Go.Proofs.YtolkhimbfegkkaaGreat.P Go.Proofs.YtolkhimbfegkkaaGreatW.PrintWords Go.Proofs.YtolkhimbfegkkaaGreatW.PrintLast Go.Proofs.YtolkhimbfegkkaaGreatW.PrintMore

def entLinks (n : Int) (e : List S63) : Nat := (e.filter fun x => decide (x.f1 = n)).length
def inoLinks (n : Int) (x : S47) : Nat := if x.f1 = 2 then entLinks n x.f4 else 0
def linksOf (n : Int) (l : List S47) : Nat := (l.map (inoLinks n)).sum
theorem entLinks_drop (n : Int) (e : List S63) (j : Nat) (hj : j < e.length) : entLinks n (e.drop j) = (if e[j].f1 = n then 1 else 0) + entLinks n (e.drop (j + 1)) := by
  unfold entLinks
  rw [List.drop_eq_getElem_cons hj, List.filter_cons]
  by_cases h : e[j].f1 = n
  · rw [if_pos (by simpa using h), if_pos h, List.length_cons]; omega
  · rw [if_neg (by simpa using h), if_neg h]; omega
theorem linksOf_drop (n : Int) (l : List S47) (j : Nat) (hj : j < l.length) : linksOf n (l.drop j) = inoLinks n l[j] + linksOf n (l.drop (j + 1)) := by
  unfold linksOf; rw [List.drop_eq_getElem_cons hj, List.map_cons, List.sum_cons]
theorem spec_links (L : List S47) (nx n : Int) (hl : L.length ≤ 1048576) (hs : ∀ x ∈ L, x.f4.length ≤ 1048576) (hu : linksOf n L ≤ 4611686018427387904) : Ev (fun k => spec_LinksOf.f k L nx n) (linksOf n L : Int) := by
  have key : ∀ acc : Nat, acc + linksOf n (L.drop 0) ≤ 4611686018427387904 → Ev (fun k => spec_LinksOf.l0 k n (acc : Int) (0 : Nat) L nx) ((acc + linksOf n (L.drop 0) : Nat) : Int) := by
    refine down (n := L.length) (P := fun i => ∀ acc : Nat, acc + linksOf n (L.drop i) ≤ 4611686018427387904 → Ev (fun k => spec_LinksOf.l0 k n (acc : Int) (i : Nat) L nx) ((acc + linksOf n (L.drop i) : Nat) : Int)) ?_ (fun i hi ih => ?_)
    · intro acc _
      rw [List.drop_length]
      apply evPre
      simp only [spec_LinksOf.l0]
      exact evN (by omega) (evC (Ev.now _) (by simp [linksOf]))
    · intro acc hb
      rw [linksOf_drop n L i hi] at hb ⊢
      have hx := hs _ (List.getElem_mem hi)
      have ih := ih (acc + inoLinks n L[i]) (by omega)
      rw [← nxt i L.length hi (by omega)] at ih
      have ih : Ev (fun k => spec_LinksOf.l0 k n ((acc + inoLinks n L[i] : Nat) : Int) (wrap64 ((i : Int) + 1)) L nx) ((acc + (inoLinks n L[i] + linksOf n (L.drop (i + 1))) : Nat) : Int) := evC ih (by omega)
      generalize ((acc + (inoLinks n L[i] + linksOf n (L.drop (i + 1))) : Nat) : Int) = R at ih ⊢
      apply evPre
      simp only [spec_LinksOf.l0]
      refine evP (by omega) ?_
      have hrd : rd_T47 L (i : Int) = L[i] := getD_at L _ i hi
      have go : ∀ acc j, Ev (fun k => spec_LinksOf.l0 k n acc (wrap64 ((i : Int) + 1)) L nx) R → Ev (fun k => spec_LinksOf.j2 k n acc i j false L nx) R := by
        intro acc j h
        apply evPre
        simp only [spec_LinksOf.j2]
        exact evN (by simp) h
      by_cases hk : L[i].f1 = 2
      · unfold inoLinks at ih hb
        rw [if_pos hk] at ih hb
        have inner : ∀ acc : Nat, acc + entLinks n (L[i].f4.drop 0) ≤ 4611686018427387904 → Ev (fun k => spec_LinksOf.l0 k n ((acc + entLinks n (L[i].f4.drop 0) : Nat) : Int) (wrap64 ((i : Int) + 1)) L nx) R → Ev (fun k => spec_LinksOf.l1 k n (acc : Int) i (0 : Nat) L nx) R := by
          refine down (n := L[i].f4.length) (P := fun j => ∀ acc : Nat, acc + entLinks n (L[i].f4.drop j) ≤ 4611686018427387904 → Ev (fun k => spec_LinksOf.l0 k n ((acc + entLinks n (L[i].f4.drop j) : Nat) : Int) (wrap64 ((i : Int) + 1)) L nx) R → Ev (fun k => spec_LinksOf.l1 k n (acc : Int) i (j : Nat) L nx) R) ?_ (fun j hj ihj => ?_)
          · intro acc _ h
            rw [List.drop_length] at h
            apply evPre
            simp only [spec_LinksOf.l1, hrd]
            exact evP (by omega) (evP (by omega) (evN (by omega) (go _ _ (by simpa [entLinks] using h))))
          · intro acc hb h
            rw [entLinks_drop n _ j hj] at hb h
            apply evPre
            simp only [spec_LinksOf.l1, hrd]
            refine evP (by omega) (evP (by omega) (evP (by omega) ?_))
            apply evPre
            simp only [spec_LinksOf.j2, hrd]
            have hrj : rd_T63 L[i].f4 (j : Int) = L[i].f4[j] := getD_at L[i].f4 _ j hj
            refine evP (by simp [hk]) (evP (by omega) (evP (by omega) (evP (by omega) (evP (by omega) ?_))))
            rw [hrj, nxt j L[i].f4.length hj (by omega)]
            by_cases he : L[i].f4[j].f1 = n
            · rw [if_pos he] at hb h
              refine evP he ?_
              rw [w64 (n := (acc : Int) + 1) (by omega) (by omega)]
              have := ihj (acc + 1) (by omega) (by rw [show acc + 1 + entLinks n (L[i].f4.drop (j + 1)) = acc + (1 + entLinks n (L[i].f4.drop (j + 1))) from by omega]; exact h)
              simpa using this
            · rw [if_neg he] at hb h
              refine evN he (ihj acc (by omega) ?_)
              simpa using h
        exact inner acc (by simp only [List.drop_zero]; omega) (by simpa using ih)
      · unfold inoLinks at ih
        rw [if_neg hk] at ih
        apply evPre
        simp only [spec_LinksOf.l1, hrd]
        refine evP (by omega) (evP (by omega) (evI' (fun _ => ?_) (fun _ => go _ _ (by simpa using ih))))
        rw [show (L[i].f1 == 2) = false from by simp [hk]]
        exact go _ _ (by simpa using ih)
  have := key 0 (by simpa using hu)
  simpa [spec_LinksOf.f] using this
theorem impl_links (L : List S47) (nx n : Int) (hl : L.length ≤ 1048576) (hs : ∀ x ∈ L, x.f4.length ≤ 1048576) (hu : linksOf n L ≤ 4611686018427387904) : Ev (fun k => impl_LinksOf.f k L nx n) (linksOf n L : Int) := by
  have key : ∀ acc : Nat, acc + linksOf n (L.drop 0) ≤ 4611686018427387904 → Ev (fun k => impl_LinksOf.l0 k n (acc : Int) L (L.length : Int) (0 : Nat)) ((acc + linksOf n (L.drop 0) : Nat) : Int) := by
    refine down (n := L.length) (P := fun i => ∀ acc : Nat, acc + linksOf n (L.drop i) ≤ 4611686018427387904 → Ev (fun k => impl_LinksOf.l0 k n (acc : Int) L (L.length : Int) (i : Nat)) ((acc + linksOf n (L.drop i) : Nat) : Int)) ?_ (fun i hi ih => ?_)
    · intro acc _
      rw [List.drop_length]
      apply evPre
      simp only [impl_LinksOf.l0]
      exact evN (by omega) (evC (Ev.now _) (by simp [linksOf]))
    · intro acc hb
      rw [linksOf_drop n L i hi] at hb ⊢
      have hx := hs _ (List.getElem_mem hi)
      have ih := ih (acc + inoLinks n L[i]) (by omega)
      rw [← nxt i L.length hi (by omega)] at ih
      have ih : Ev (fun k => impl_LinksOf.l0 k n ((acc + inoLinks n L[i] : Nat) : Int) L (L.length : Int) (wrap64 ((i : Int) + 1))) ((acc + (inoLinks n L[i] + linksOf n (L.drop (i + 1))) : Nat) : Int) := evC ih (by omega)
      generalize ((acc + (inoLinks n L[i] + linksOf n (L.drop (i + 1))) : Nat) : Int) = R at ih ⊢
      apply evPre
      have hrd : rd_T47 L (i : Int) = L[i] := getD_at L _ i hi
      simp only [impl_LinksOf.l0, hrd]
      refine evP (by omega) ?_
      refine evP (by omega) (evP (by omega) ?_)
      by_cases hk : L[i].f1 = 2
      · unfold inoLinks at ih hb
        rw [if_pos hk] at ih hb
        refine evP hk ?_
        have inner : ∀ acc : Nat, acc + entLinks n (L[i].f4.drop 0) ≤ 4611686018427387904 → Ev (fun k => impl_LinksOf.l0 k n ((acc + entLinks n (L[i].f4.drop 0) : Nat) : Int) L (L.length : Int) (wrap64 ((i : Int) + 1))) R → Ev (fun k => impl_LinksOf.l1 k n (acc : Int) L (L.length : Int) i L[i].f4 (L[i].f4.length : Int) (0 : Nat)) R := by
          refine down (n := L[i].f4.length) (P := fun j => ∀ acc : Nat, acc + entLinks n (L[i].f4.drop j) ≤ 4611686018427387904 → Ev (fun k => impl_LinksOf.l0 k n ((acc + entLinks n (L[i].f4.drop j) : Nat) : Int) L (L.length : Int) (wrap64 ((i : Int) + 1))) R → Ev (fun k => impl_LinksOf.l1 k n (acc : Int) L (L.length : Int) i L[i].f4 (L[i].f4.length : Int) (j : Nat)) R) ?_ (fun j hj ihj => ?_)
          · intro acc _ h
            rw [List.drop_length] at h
            apply evPre
            simp only [impl_LinksOf.l1]
            exact evN (by omega) (by simpa [entLinks] using h)
          · intro acc hb h
            rw [entLinks_drop n _ j hj] at hb h
            apply evPre
            simp only [impl_LinksOf.l1]
            have hrj : rd_T63 L[i].f4 (j : Int) = L[i].f4[j] := getD_at L[i].f4 _ j hj
            refine evP (by omega) (evP (by omega) (evP (by omega) ?_))
            rw [hrj, nxt j L[i].f4.length hj (by omega)]
            by_cases he : L[i].f4[j].f1 = n
            · rw [if_pos he] at hb h
              refine evP he ?_
              rw [w64 (n := (acc : Int) + 1) (by omega) (by omega)]
              have := ihj (acc + 1) (by omega) (by rw [show acc + 1 + entLinks n (L[i].f4.drop (j + 1)) = acc + (1 + entLinks n (L[i].f4.drop (j + 1))) from by omega]; exact h)
              simpa using this
            · rw [if_neg he] at hb h
              refine evN he (ihj acc (by omega) ?_)
              simpa using h
        exact inner acc (by simp only [List.drop_zero]; omega) (by simpa using ih)
      · unfold inoLinks at ih
        rw [if_neg hk] at ih
        exact evN hk (by simpa using ih)
  have := key 0 (by simpa using hu)
  simpa [impl_LinksOf.f] using this
end Go.Proofs.YtolkhimbfegkkaaGreat.Q
namespace Go.Proofs.YtolkhimbfegkkaaGreat.Q
open Go.RowKit Go.Proofs.YtolkhimbfegkkaaGreat.P Go.Proofs.YtolkhimbfegkkaaGreat.Kinds Go.Proofs.YtolkhimbfegkkaaGreatW.PrintWords Go.Proofs.YtolkhimbfegkkaaGreatW.PrintLast Go.Proofs.YtolkhimbfegkkaaGreatW.PrintMore

theorem good_tab (l : List S59) (h : ∀ x ∈ l, g59 x) : ∀ x ∈ l, InoM x := by
  intro x hx
  obtain ⟨_, _, _, ⟨hd, _⟩, ⟨he, ge⟩, ⟨ht, gt⟩⟩ := h x hx
  have hM : maxLen = 9223372036854775807 := rfl
  simp only [hM] at *
  exact ⟨hd, he, ht, fun e h => (ge e h).1, fun e h => gt e h⟩
theorem inoB_of (l : List S59) (h : ∀ x ∈ l, InoS x) : ∀ x ∈ l, InoB x := fun x hx => ⟨(h x hx).d, (h x hx).e, (h x hx).t⟩
end Go.Proofs.YtolkhimbfegkkaaGreat.Q
namespace Go.Proofs.YtolkhimbfegkkaaGreat.Q
open Go.RowKit Go.Proofs.YtolkhimbfegkkaaGreat.P Go.Proofs.YtolkhimbfegkkaaGreatW.PrintWords Go.Proofs.YtolkhimbfegkkaaGreatW.PrintLast Go.Proofs.YtolkhimbfegkkaaGreatW.PrintMore

theorem textSize (l : List Int) : (strOfNums l).size = l.length := by
  simp [strOfNums, ByteArray.size]
theorem mtext_loop (m : Nat) : ∀ (n : Int) (s : ByteArray), 0 ≤ n → n ≤ 9223372036854775807 → n < 10 ^ m → s.size + m ≤ 1000 → ∃ r, Ev (fun k => laws_markText.l0 k n s) r := by
  induction m with
  | zero =>
    intro n s h0 _ h1 hs
    refine ⟨(⟨#[109]⟩ : ByteArray) ++ s, evPre ?_⟩
    simp only [laws_markText.l0]
    exact evN (by omega) (evP (by omega) (Ev.now _))
  | succ m ih =>
    intro n s h0 hM h1 hs
    by_cases hn : n > 0
    · have hd : wrap64 (Int.tdiv n 10) = n / 10 := by rw [Int.tdiv_eq_ediv_of_nonneg h0]; exact w64 (by omega) (by omega)
      obtain ⟨r, hr⟩ := ih (n / 10) ((strOfNums [wrap64 (48 + Int.tmod n 10) % 256]) ++ s) (by omega) (by omega) (by rw [Int.pow_succ] at h1; omega) (by rw [ByteArray.size_append, textSize]; simp; omega)
      refine ⟨r, evPre ?_⟩
      simp only [laws_markText.l0, Option.bind_some, hd]
      exact evP hn (evP (by rw [textSize]; simp; omega) hr)
    · refine ⟨(⟨#[109]⟩ : ByteArray) ++ s, evPre ?_⟩
      simp only [laws_markText.l0]
      exact evN hn (evP (by omega) (Ev.now _))
theorem mtext (n : Int) (h0 : 1 ≤ n) (h1 : n ≤ 9223372036854775807) : ∃ r, Ev (fun k => laws_markText.f k n) r := by
  obtain ⟨r, h⟩ := mtext_loop 19 n ⟨#[]⟩ (by omega) h1 (by omega) (by decide)
  exact ⟨r, by unfold laws_markText.f; exact evN (by omega) h⟩
theorem take_set_at {α : Type} (y : List α) (i : Nat) (v : α) (h : i < y.length) : (y.set i v).take (i + 1) = y.take i ++ [v] := by
  rw [List.take_succ_eq_append_getElem (by simpa using h), List.getElem_set_self, List.take_set_of_le (Nat.le_refl i)]

/-- The names and numbers of a directory's entries hold the marks from a on. -/
def HeldE : Int → List S63 → Prop
  | _, [] => True
  | a, x :: l => Ev (fun k => laws_markText.f k a) x.f0 ∧ x.f1 = a + 1 ∧ HeldE (a + 2) l
/-- The same, for attributes. -/
def HeldA : Int → List S87 → Prop
  | _, [] => True
  | a, x :: l => Ev (fun k => laws_markText.f k a) x.f0 ∧ Ev (fun k => laws_markText.f k (a + 1)) x.f1 ∧ HeldA (a + 2) l
theorem markEntS (l : List S63) (x : Int) (h0 : 1 ≤ x) (h1 : x + 2 * l.length ≤ 4611686018427387904) : ∃ r, Ev (fun k => laws_markEntS.f k l x) (x + 2 * l.length, r) ∧ r.length = l.length ∧ HeldE x r := by
  have key := down (n := l.length) (P := fun i => ∀ y : List S63, y.length = l.length → ∃ r, Ev (fun k => laws_markEntS.l0 k y (x + 2 * i) (i : Nat)) (x + 2 * l.length, y.take i ++ r) ∧ i + r.length = l.length ∧ HeldE (x + 2 * i) r) (by
      intro y hy
      refine ⟨[], evPre ?_, by simp, trivial⟩
      simp only [laws_markEntS.l0]
      refine evN (by omega) (evC (Ev.now _) ?_)
      rw [← hy, List.take_length, List.append_nil]) (by
      intro i hi h y hy
      obtain ⟨s, hs⟩ := mtext (x + 2 * i) (by omega) (by omega)
      obtain ⟨r, hr, hl, hh⟩ := h (((y.set i (⟨s, (rd_T63 y (i : Nat)).f1⟩ : S63)).set i (⟨(rd_T63 (y.set i (⟨s, (rd_T63 y (i : Nat)).f1⟩ : S63)) (i : Nat)).f0, x + 2 * i + 1⟩ : S63))) (by simp [hy])
      have e0 : (rd_T63 (y.set i (⟨s, (rd_T63 y (i : Nat)).f1⟩ : S63)) (i : Nat)).f0 = s := by rw [rd_T63, getD_at _ _ i (by simpa using (by omega : i < y.length)), List.getElem_set_self]
      have e1 := e0
      refine ⟨⟨s, x + 2 * i + 1⟩ :: r, evPre ?_, by simp; omega, hs, rfl, by rw [show x + 2 * (i : Int) + 2 = x + 2 * ((i + 1 : Nat) : Int) from by omega]; exact hh⟩
      simp only [laws_markEntS.l0, Option.bind_some]
      refine evP (by omega) (Ev.bind hs (evP (by omega) ?_))
      rw [w64 (n := x + 2 * (i : Int) + 1) (by omega) (by omega), w64 (n := x + 2 * (i : Int) + 1 + 1) (by omega) (by omega), nxt i l.length hi (by omega), show x + 2 * (i : Int) + 1 + 1 = x + 2 * ((i + 1 : Nat) : Int) from by omega]
      refine evC hr ?_
      rw [e1, take_set_at _ _ _ (by simp; omega), List.take_set_of_le (Nat.le_refl i), List.append_assoc]
      rfl)
  obtain ⟨r, hr, hl, hh⟩ := key l rfl
  exact ⟨r, by simpa [laws_markEntS.f] using hr, by omega, by simpa using hh⟩
theorem markAttrS (l : List S87) (x : Int) (h0 : 1 ≤ x) (h1 : x + 2 * l.length ≤ 4611686018427387904) : ∃ r, Ev (fun k => laws_markAttrS.f k l x) (x + 2 * l.length, r) ∧ r.length = l.length ∧ HeldA x r := by
  have key := down (n := l.length) (P := fun i => ∀ y : List S87, y.length = l.length → ∃ r, Ev (fun k => laws_markAttrS.l0 k y (x + 2 * i) (i : Nat)) (x + 2 * l.length, y.take i ++ r) ∧ i + r.length = l.length ∧ HeldA (x + 2 * i) r) (by
      intro y hy
      refine ⟨[], evPre ?_, by simp, trivial⟩
      simp only [laws_markAttrS.l0]
      refine evN (by omega) (evC (Ev.now _) ?_)
      rw [← hy, List.take_length, List.append_nil]) (by
      intro i hi h y hy
      obtain ⟨s, hs⟩ := mtext (x + 2 * i) (by omega) (by omega)
      obtain ⟨s2, hs2⟩ := mtext (x + 2 * i + 1) (by omega) (by omega)
      obtain ⟨r, hr, hl, hh⟩ := h (((y.set i (⟨s, (rd_T87 y (i : Nat)).f1⟩ : S87)).set i (⟨(rd_T87 (y.set i (⟨s, (rd_T87 y (i : Nat)).f1⟩ : S87)) (i : Nat)).f0, s2⟩ : S87))) (by simp [hy])
      have e1 : (rd_T87 (y.set i (⟨s, (rd_T87 y (i : Nat)).f1⟩ : S87)) (i : Nat)).f0 = s := by rw [rd_T87, getD_at _ _ i (by simpa using (by omega : i < y.length)), List.getElem_set_self]
      refine ⟨⟨s, s2⟩ :: r, evPre ?_, by simp; omega, hs, hs2, by rw [show x + 2 * (i : Int) + 2 = x + 2 * ((i + 1 : Nat) : Int) from by omega]; exact hh⟩
      simp only [laws_markAttrS.l0, Option.bind_some]
      rw [w64 (n := x + 2 * (i : Int) + 1) (by omega) (by omega), w64 (n := x + 2 * (i : Int) + 1 + 1) (by omega) (by omega), nxt i l.length hi (by omega), show x + 2 * (i : Int) + 1 + 1 = x + 2 * ((i + 1 : Nat) : Int) from by omega]
      refine evP (by omega) (Ev.bind hs (evP (by omega) (Ev.bind hs2 (evC hr ?_))))
      rw [e1, take_set_at _ _ _ (by simp; omega), List.take_set_of_le (Nat.le_refl i), List.append_assoc]
      rfl)
  obtain ⟨r, hr, hl, hh⟩ := key l rfl
  exact ⟨r, by simpa [laws_markAttrS.f] using hr, by omega, by simpa using hh⟩

/-- An inode's lists hold the marks from a on. -/
def HeldX (a : Int) (d : List Int) (e : List S63) (t : List S87) : Prop := d = marks d.length a ∧ HeldE (a + d.length) e ∧ HeldA (a + d.length + 2 * e.length) t
def inW (d : List Int) (e : List S63) (t : List S87) : Nat := d.length + 2 * e.length + 2 * t.length
end Go.Proofs.YtolkhimbfegkkaaGreat.Q
namespace Go.Proofs.YtolkhimbfegkkaaGreat.Q
open Go.RowKit Go.Proofs.YtolkhimbfegkkaaGreat.P Go.Proofs.YtolkhimbfegkkaaGreatW.PrintWords Go.Proofs.YtolkhimbfegkkaaGreatW.PrintLast Go.Proofs.YtolkhimbfegkkaaGreatW.PrintMore

def rowW (x : S47) : Nat := 3 + inW x.f3 x.f4 x.f5
def rowsW (l : List S47) : Nat := (l.map rowW).sum
/-- A table's inodes hold the marks from a on. -/
def HeldT : Int → List S47 → Prop
  | _, [] => True
  | a, x :: l => (x.f0 = a ∧ x.f1 = a + 1 ∧ x.f2 = a + 2 ∧ HeldX (a + 3) x.f3 x.f4 x.f5) ∧ HeldT (a + rowW x) l
theorem markRows (l : List S47) : ∀ (x : Int), 1 ≤ x → x + rowsW l ≤ 4611686018427387904 → ∃ r, Ev (fun k => markR k l x) (x + rowsW l, r) ∧ r.length = l.length ∧ rowsW r = rowsW l ∧ HeldT x r := by
  induction l with
  | nil => intro x _ _; exact ⟨[], evC (Ev.now _) (by simp [rowsW]), rfl, rfl, trivial⟩
  | cons y l ih =>
    intro x h0 h1
    have hw : rowsW (y :: l) = rowW y + rowsW l := by simp [rowsW]
    rw [hw] at h1 ⊢
    obtain ⟨r, hr, hl, hW, hh⟩ := ih (x + rowW y) (by omega) (by omega)
    have hy : rowW y = 3 + (y.f3.length + 2 * y.f4.length + 2 * y.f5.length) := rfl
    have g1 := markByteS_ev y.f3 (x + 1 + 1 + 1) (by omega) (by omega)
    obtain ⟨e', g2, l2, v2⟩ := markEntS y.f4 (x + 1 + 1 + 1 + y.f3.length) (by omega) (by omega)
    obtain ⟨t', g3, l3, v3⟩ := markAttrS y.f5 (x + 1 + 1 + 1 + y.f3.length + 2 * y.f4.length) (by omega) (by omega)
    have hz : rowW ⟨x, x + 1, x + 1 + 1, marks y.f3.length (x + 1 + 1 + 1), e', t'⟩ = rowW y := by
      simp only [rowW, inW, marks_length, l2, l3]
    refine ⟨⟨x, x + 1, x + 1 + 1, marks y.f3.length (x + 1 + 1 + 1), e', t'⟩ :: r, ?_, by simp [hl], by simp only [rowsW, List.map_cons, List.sum_cons, hz] at hW ⊢; omega, ⟨rfl, rfl, by dsimp only; omega, ?_⟩, by rw [hz]; exact hh⟩
    · simp only [markR, markOne]
      rw [w64 (n := x + 1) (by omega) (by omega), w64 (n := x + 1 + 1) (by omega) (by omega), w64 (n := x + 1 + 1 + 1) (by omega) (by omega)]
      refine Ev.bind (Ev.bind g1 (Ev.bind g2 (Ev.bind g3 (Ev.now _)))) ?_
      rw [show x + 1 + 1 + 1 + (y.f3.length : Int) + 2 * y.f4.length + 2 * y.f5.length = x + rowW y from by omega]
      refine Ev.bind hr (evC (Ev.now _) ?_)
      rw [show x + ((rowW y + rowsW l : Nat) : Int) = x + rowW y + rowsW l from by omega]
    · rw [show x + 1 + 1 + 1 = x + 3 from by omega] at v2 v3 ⊢
      exact ⟨by rw [marks_length], by rw [marks_length]; exact v2, by rw [marks_length, l2]; exact v3⟩
theorem markTabS1 (l : List S47) (x : Int) (hl : l.length ≤ 1048577) (h0 : 1 ≤ x) (h1 : x + rowsW l ≤ 4611686018427387904) : ∃ r, Ev (fun k => laws_markInodeS.f k l x) (x + rowsW l, r) ∧ r.length = l.length ∧ rowsW r = rowsW l ∧ HeldT x r := by
  obtain ⟨r, hr, z⟩ := markRows l x h0 h1
  exact ⟨r, by unfold laws_markInodeS.f; exact evP (by omega) hr, z⟩
theorem markTabS (l : List S47) (x : Int) (hl : l.length ≤ 1048576) (h0 : 1 ≤ x) (h1 : x + rowsW l ≤ 4611686018427387904) : ∃ r, Ev (fun k => laws_markInodeS.f k l x) (x + rowsW l, r) ∧ r.length = l.length ∧ rowsW r = rowsW l ∧ HeldT x r := markTabS1 l x (by omega) h0 h1
end Go.Proofs.YtolkhimbfegkkaaGreat.Q
namespace Go.Proofs.YtolkhimbfegkkaaGreat.Q
open Go.RowKit Go.Proofs.YtolkhimbfegkkaaGreat.P Go.Proofs.YtolkhimbfegkkaaGreatW.PrintWords Go.Proofs.YtolkhimbfegkkaaGreatW.PrintLast Go.Proofs.YtolkhimbfegkkaaGreatW.PrintMore

/-- A table's inodes are small. -/
structure InoA (x : S47) : Prop where
  d : x.f3.length ≤ 1048576
  e : x.f4.length ≤ 1048576
  t : x.f5.length ≤ 1048576
theorem copy_ino (x : S47) (h : InoA x) : impl_copyInode.f x.f0 x.f1 x.f2 x.f3 x.f4 x.f5 = some (x.f0, x.f1, x.f2, x.f3, x.f4, x.f5) := by
  have hd := h.d; have he := h.e; have ht := h.t
  have a : slices_Clone_byte_byte.f x.f3 = some x.f3 := by unfold slices_Clone_byte_byte.f; simp; omega
  have b : slices_Clone_Ent.f x.f4 = some x.f4 := by unfold slices_Clone_Ent.f; simp; omega
  have c : slices_Clone_Attr.f x.f5 = some x.f5 := by unfold slices_Clone_Attr.f; simp; omega
  unfold impl_copyInode.f
  rw [a, Option.bind_some, b, Option.bind_some, c, Option.bind_some]
end Go.Proofs.YtolkhimbfegkkaaGreat.Q
namespace Go.Proofs.YtolkhimbfegkkaaGreat.Q
open Go.RowKit Go.Proofs.YtolkhimbfegkkaaGreat.P Go.Proofs.YtolkhimbfegkkaaGreatW.PrintWords Go.Proofs.YtolkhimbfegkkaaGreatW.PrintLast Go.Proofs.YtolkhimbfegkkaaGreatW.PrintMore

theorem l3_copy (x : S47) (h : InoA x) : spec_l3Copy.f x.f0 x.f1 x.f2 x.f3 x.f4 x.f5 = some (x.f0, x.f1, x.f2, x.f3, x.f4, x.f5) := by
  have hd := h.d; have he := h.e; have ht := h.t
  unfold spec_l3Copy.f
  simp only [Option.bind_some, List.length_nil, List.nil_append]
  rw [if_pos (by omega), if_pos (by omega), if_pos (by omega)]
end Go.Proofs.YtolkhimbfegkkaaGreat.Q
namespace Go.Proofs.YtolkhimbfegkkaaGreat.Q
open Go.RowKit Go.Proofs.YtolkhimbfegkkaaGreat.P Go.Proofs.YtolkhimbfegkkaaGreatW.PrintWords Go.Proofs.YtolkhimbfegkkaaGreatW.PrintLast Go.Proofs.YtolkhimbfegkkaaGreatW.PrintMore

theorem rowsW_of (l : List S59) : rowsW (l.map iInode) ≤ 3 * tabSz l := by
  unfold rowsW tabSz
  induction l with
  | nil => simp
  | cons x l ih =>
    simp only [List.map_cons, List.sum_cons, List.length_cons]
    have : rowW (iInode x) ≤ 3 + 3 * inoSz x := by
      unfold rowW inW inoSz inodeSz iInode
      simp only [List.length_map]
      omega
    omega
end Go.Proofs.YtolkhimbfegkkaaGreat.Q
namespace Go.Proofs.YtolkhimbfegkkaaGreat.Q
open Go.RowKit Go.Proofs.YtolkhimbfegkkaaGreat.P Go.Proofs.YtolkhimbfegkkaaGreatW.PrintWords Go.Proofs.YtolkhimbfegkkaaGreatW.PrintLast Go.Proofs.YtolkhimbfegkkaaGreatW.PrintMore

theorem place_range (ino : Int) (l : List S47) : ∀ i : Nat, placeR ino l i = -1 ∨ ((i : Int) ≤ placeR ino l i ∧ placeR ino l i < i + l.length) := by
  induction l with
  | nil => intro i; exact .inl rfl
  | cons x l ih =>
    intro i
    rw [placeR]
    split
    · right; simp only [List.length_cons]; omega
    · rcases ih (i + 1) with h | h
      · exact .inl h
      · right; simp only [List.length_cons]; omega
theorem spec_at (l : List S47) (nx ino : Int) (hl : l.length ≤ 1048576) : Ev (fun k => spec_l4At.f k l nx ino) (placeR ino l 0) := by
  have key := down (n := l.length) (P := fun i => Ev (fun k => spec_l4At.l0 k ino (i : Nat) l nx) (placeR ino (l.drop i) i)) (by
      apply evPre
      simp only [spec_l4At.l0]
      refine evN (by omega) (evC (Ev.now _) ?_)
      rw [List.drop_length]; rfl) (fun i hi h => by
      have hrd : rd_T47 l (i : Int) = l[i] := getD_at l _ i hi
      apply evPre
      simp only [spec_l4At.l0, hrd]
      rw [nxt i l.length hi (by omega), List.drop_eq_getElem_cons hi, placeR]
      refine evP (by omega) (evP (by omega) ?_)
      by_cases c : l[i].f0 = ino
      · exact evP c (evC (Ev.now _) (by rw [if_pos c]))
      · exact evN c (evC h (by rw [if_neg c])))
  simpa [spec_l4At.f] using key
end Go.Proofs.YtolkhimbfegkkaaGreat.Q
namespace Go.Proofs.YtolkhimbfegkkaaGreat.Q
open Go.RowKit Go.Proofs.YtolkhimbfegkkaaGreat.P Go.Proofs.YtolkhimbfegkkaaGreatW.PrintWords Go.Proofs.YtolkhimbfegkkaaGreatW.PrintLast Go.Proofs.YtolkhimbfegkkaaGreatW.PrintMore

/-- The inode with this number, or an empty one; whether there is one. -/
def inoAt (l : List S47) (ino : Int) : S47 := if placeR ino l 0 < 0 then ⟨0, 0, 0, [], [], []⟩ else rd_T47 l (placeR ino l 0)
def isAt (l : List S47) (ino : Int) : Bool := decide (0 ≤ placeR ino l 0)
theorem inoAt_small (l : List S47) (ino : Int) (hs : ∀ x ∈ l, InoA x) : InoA (inoAt l ino) := by
  unfold inoAt
  split
  · exact ⟨by simp, by simp, by simp⟩
  · rcases place_range ino l 0 with h | h
    · omega
    · obtain ⟨n, hn⟩ : ∃ n : Nat, placeR ino l 0 = n := ⟨(placeR ino l 0).toNat, by omega⟩
      rw [hn] at h ⊢
      have hlt : n < l.length := by omega
      have hrd : rd_T47 l (n : Int) = l[n] := getD_at l _ n hlt
      rw [hrd]
      exact hs _ (List.getElem_mem hlt)
theorem impl_inodeAt (l : List S47) (nx ino : Int) (hl : l.length ≤ 1048576) (hs : ∀ x ∈ l, InoA x) :
    Ev (fun k => impl_InodeAt.f k l nx ino) ((inoAt l ino).f0, (inoAt l ino).f1, (inoAt l ino).f2, (inoAt l ino).f3, (inoAt l ino).f4, (inoAt l ino).f5, isAt l ino) := by
  have hc := inoAt_small l ino hs
  have hr := place_range ino l 0
  unfold impl_InodeAt.f impl_placeOf.f
  refine Ev.bind (evP (by omega) (Ev.now _)) ?_
  by_cases c : placeR ino l 0 < 0
  · refine evP c (evC (Ev.now _) ?_)
    simp only [inoAt, isAt, if_pos c, show decide (0 ≤ placeR ino l 0) = false from decide_eq_false (by omega)]
  · have hi : inoAt l ino = rd_T47 l (placeR ino l 0) := by simp only [inoAt, if_neg c]
    rw [hi] at hc ⊢
    refine evN c (evP (by omega) (evP (by omega) ?_))
    simp only [copy_ino _ hc, Option.bind_some]
    refine evC (Ev.now _) ?_
    simp only [isAt, show decide (0 ≤ placeR ino l 0) = true from decide_eq_true (by omega)]
end Go.Proofs.YtolkhimbfegkkaaGreat.Q
namespace Go.Proofs.YtolkhimbfegkkaaGreat.Q
open Go.RowKit Go.Proofs.YtolkhimbfegkkaaGreat.P Go.Proofs.YtolkhimbfegkkaaGreatW.PrintWords Go.Proofs.YtolkhimbfegkkaaGreatW.PrintLast Go.Proofs.YtolkhimbfegkkaaGreatW.PrintMore

theorem spec_inodeAt (l : List S47) (nx ino : Int) (hl : l.length ≤ 1048576) (hs : ∀ x ∈ l, InoA x) :
    Ev (fun k => spec_InodeAt.f k l nx ino) ((inoAt l ino).f0, (inoAt l ino).f1, (inoAt l ino).f2, (inoAt l ino).f3, (inoAt l ino).f4, (inoAt l ino).f5, isAt l ino) := by
  have hc := inoAt_small l ino hs
  have hr := place_range ino l 0
  unfold spec_InodeAt.f
  refine Ev.bind (spec_at l nx ino hl) ?_
  by_cases c : placeR ino l 0 < 0
  · refine evP c (evC (Ev.now _) ?_)
    simp only [inoAt, isAt, if_pos c, show decide (0 ≤ placeR ino l 0) = false from decide_eq_false (by omega)]
  · have hi : inoAt l ino = rd_T47 l (placeR ino l 0) := by simp only [inoAt, if_neg c]
    rw [hi] at hc ⊢
    refine evN c (evP (by omega) (evP (by omega) ?_))
    simp only [l3_copy _ hc, Option.bind_some]
    refine evC (Ev.now _) ?_
    simp only [isAt, show decide (0 ≤ placeR ino l 0) = true from decide_eq_true (by omega)]
end Go.Proofs.YtolkhimbfegkkaaGreat.Q
namespace Go.Proofs.YtolkhimbfegkkaaGreat.Q
open Go.RowKit Go.Proofs.YtolkhimbfegkkaaGreat.P Go.Proofs.YtolkhimbfegkkaaGreatW.PrintWords Go.Proofs.YtolkhimbfegkkaaGreatW.PrintLast Go.Proofs.YtolkhimbfegkkaaGreatW.PrintMore

theorem lt_ext : ∀ (a b : List Int), a.Pairwise (· < ·) → b.Pairwise (· < ·) → (∀ x, x ∈ a ↔ x ∈ b) → a = b
  | [], [], _, _, _ => rfl
  | [], y :: b, _, _, h => absurd ((h y).2 (List.mem_cons_self ..)) (by simp)
  | x :: a, [], _, _, h => absurd ((h x).1 (List.mem_cons_self ..)) (by simp)
  | x :: a, y :: b, ha, hb, h => by
    obtain ⟨ha1, ha2⟩ := List.pairwise_cons.1 ha
    obtain ⟨hb1, hb2⟩ := List.pairwise_cons.1 hb
    have hxy : x = y := by
      rcases List.mem_cons.1 ((h x).1 (List.mem_cons_self ..)) with h1 | h1
      · exact h1
      · rcases List.mem_cons.1 ((h y).2 (List.mem_cons_self ..)) with h2 | h2
        · exact h2.symm
        · have := hb1 x h1; have := ha1 y h2; omega
    subst hxy
    rw [lt_ext a b ha2 hb2 (fun z => ?_)]
    constructor
    · intro hz
      rcases List.mem_cons.1 ((h z).1 (List.mem_cons_of_mem _ hz)) with rfl | h1
      · have := ha1 z hz; omega
      · exact h1
    · intro hz
      rcases List.mem_cons.1 ((h z).2 (List.mem_cons_of_mem _ hz)) with rfl | h1
      · have := hb1 z hz; omega
      · exact h1
theorem mem_sortI (l : List Int) (x : Int) : x ∈ sortI l ↔ x ∈ l := List.mem_mergeSort ..
theorem sortI_lt (l : List Int) (h : l.Nodup) : (sortI l).Pairwise (· < ·) := by
  have h1 : (sortI l).Pairwise fun x y => decide (x ≤ y) = true := List.pairwise_mergeSort (fun a b c h1 h2 => by simp at *; omega) (fun a b => by simp; omega) l
  have h2 : (sortI l).Nodup := (List.mergeSort_perm l _).nodup_iff.2 h
  exact (h1.and h2).imp (fun ⟨a, b⟩ => by simp at a; omega)
/-- A number's place in a row in order, from the end on: all behind it are greater. -/
def plc (xs : List Int) (n : Int) : Nat → Nat
  | 0 => 0
  | k + 1 => if xs.getD k 0 > n then plc xs n k else k + 1
def putP (xs : List Int) (n : Int) : List Int := if n ∈ xs then xs else xs.take (plc xs n xs.length) ++ [n] ++ xs.drop (plc xs n xs.length)
theorem plc_le (xs : List Int) (n : Int) : ∀ k, plc xs n k ≤ k
  | 0 => Nat.le_refl _
  | k + 1 => by rw [plc]; split; exact Nat.le_succ_of_le (plc_le xs n k); exact Nat.le_refl _
theorem mem_putP (xs : List Int) (n x : Int) : x ∈ putP xs n ↔ x ∈ xs ∨ x = n := by
  unfold putP
  split
  · constructor
    · exact .inl
    · rintro (h | rfl) <;> assumption
  · rw [List.mem_append, List.mem_append, List.mem_singleton]
    conv => rhs; rw [← List.take_append_drop (plc xs n xs.length) xs, List.mem_append]
    constructor
    · rintro ((h | h) | h)
      · exact .inl (.inl h)
      · exact .inr h
      · exact .inl (.inr h)
    · rintro ((h | h) | h)
      · exact .inl (.inl h)
      · exact .inr h
      · exact .inl (.inr h)
theorem plc_gt (xs : List Int) (n : Int) : ∀ k, k ≤ xs.length → ∀ j, plc xs n k ≤ j → j < k → xs.getD j 0 > n
  | 0, _, j, _, h => by omega
  | k + 1, hk, j, h1, h2 => by
    rw [plc] at h1
    split at h1
    · rcases Nat.lt_or_ge j k with h | h
      · exact plc_gt xs n k (by omega) j h1 h
      · obtain rfl : j = k := by omega
        assumption
    · omega
theorem plc_at (xs : List Int) (n : Int) : ∀ k, 0 < plc xs n k → ¬ xs.getD (plc xs n k - 1) 0 > n
  | 0, h => by simp [plc] at h
  | k + 1, h => by
    rw [plc] at h ⊢
    split
    · rename_i hc; rw [if_pos hc] at h; exact plc_at xs n k h
    · rename_i hc; simpa using hc
theorem putP_lt (xs : List Int) (n : Int) (h : xs.Pairwise (· < ·)) : (putP xs n).Pairwise (· < ·) := by
  unfold putP
  split
  · exact h
  · rename_i hn
    have hle := plc_le xs n xs.length
    have hgt := plc_gt xs n xs.length (Nat.le_refl _)
    have hat := plc_at xs n xs.length
    generalize plc xs n xs.length = j at hle hgt hat
    have hp := List.pairwise_iff_getElem.1 h
    have h1 : ∀ a ∈ xs.take j, a < n := fun a ha => by
      obtain ⟨i, hi, rfl⟩ := List.getElem_of_mem ha
      rw [List.length_take] at hi
      rw [List.getElem_take]
      have hj := hat (by omega)
      rw [List.getD_eq_getElem?_getD, List.getElem?_eq_getElem (by omega), Option.getD_some] at hj
      have hne : xs[j - 1] ≠ n := fun e => hn (e ▸ List.getElem_mem _)
      rcases Nat.lt_or_ge i (j - 1) with hl | hg
      · have := hp i (j - 1) (by omega) (by omega) hl; omega
      · obtain rfl : i = j - 1 := by omega
        omega
    have h2 : ∀ b ∈ xs.drop j, n < b := fun b hb => by
      obtain ⟨i, hi, rfl⟩ := List.getElem_of_mem hb
      rw [List.length_drop] at hi
      rw [List.getElem_drop]
      have := hgt (j + i) (by omega) (by omega)
      rw [List.getD_eq_getElem?_getD, List.getElem?_eq_getElem (by omega), Option.getD_some] at this
      exact this
    rw [List.pairwise_append, List.pairwise_append]
    refine ⟨⟨h.sublist (List.take_sublist ..), List.pairwise_singleton .., fun a ha b hb => by rw [List.mem_singleton.1 hb]; exact h1 a ha⟩, h.sublist (List.drop_sublist ..), fun a ha b hb => ?_⟩
    rcases List.mem_append.1 ha with ha | ha
    · have := h1 a ha; have := h2 b hb; omega
    · rw [List.mem_singleton.1 ha]; exact h2 b hb
end Go.Proofs.YtolkhimbfegkkaaGreat.Q
namespace Go.Proofs.YtolkhimbfegkkaaGreat.Q
open Go.RowKit Go.Proofs.YtolkhimbfegkkaaGreat.P Go.Proofs.YtolkhimbfegkkaaGreatW.PrintWords Go.Proofs.YtolkhimbfegkkaaGreatW.PrintLast Go.Proofs.YtolkhimbfegkkaaGreatW.PrintMore

theorem nodup_len : ∀ (xs U : List Int), xs.Nodup → (∀ x ∈ xs, x ∈ U) → xs.length ≤ U.length
  | [], _, _, _ => Nat.zero_le _
  | x :: xs, U, h, hs => by
    obtain ⟨h1, h2⟩ := List.nodup_cons.1 h
    have hx := hs x (List.mem_cons_self ..)
    have := nodup_len xs (U.erase x) h2 (fun y hy => (List.mem_erase_of_ne (fun (e : y = x) => h1 (e ▸ hy))).2 (hs y (List.mem_cons_of_mem _ hy)))
    rw [List.length_erase_of_mem hx] at this
    have := List.length_pos_of_mem hx
    simp only [List.length_cons]
    omega
theorem nodup_all (xs U : List Int) (h : xs.Nodup) (hs : ∀ x ∈ xs, x ∈ U) (hl : U.length ≤ xs.length) : ∀ y ∈ U, y ∈ xs := fun y hy => by
  apply Classical.byContradiction
  intro hn
  have := nodup_len (y :: xs) U (List.nodup_cons.2 ⟨hn, h⟩) (fun z hz => by
    rcases List.mem_cons.1 hz with rfl | hz
    · exact hy
    · exact hs z hz)
  simp only [List.length_cons] at this
  omega
theorem lt_nodup {l : List Int} (h : l.Pairwise (· < ·)) : l.Nodup := h.imp (fun h e => by omega)
section
variable (ex : Int → Bool) (kids : Int → List Int)
/-- One entry more. -/
def addP (out es : List Int) : List Int := es.foldl (fun o e => if ex e = true then putP o e else o) out
def nextP (xs : List Int) : List Int := addP ex xs (xs.flatMap kids)
def itP : Nat → List Int → List Int
  | 0, xs => xs
  | n + 1, xs => itP n (nextP ex kids xs)
def Shut1 (xs : List Int) : Prop := ∀ x ∈ xs, ∀ y ∈ kids x, ex y = true → y ∈ xs
theorem mem_addP (es : List Int) : ∀ (out : List Int) (x : Int), x ∈ addP ex out es ↔ x ∈ out ∨ (x ∈ es ∧ ex x = true) := by
  induction es with
  | nil => intro out x; simp [addP]
  | cons e es ih =>
    intro out x
    show x ∈ addP ex (if ex e = true then putP out e else out) es ↔ _
    rw [ih]
    by_cases c : ex e = true
    · rw [if_pos c, mem_putP, List.mem_cons]
      constructor
      · rintro ((h | rfl) | ⟨h, k⟩)
        · exact .inl h
        · exact .inr ⟨.inl rfl, c⟩
        · exact .inr ⟨.inr h, k⟩
      · rintro (h | ⟨rfl | h, k⟩)
        · exact .inl (.inl h)
        · exact .inl (.inr rfl)
        · exact .inr ⟨h, k⟩
    · rw [if_neg c, List.mem_cons]
      constructor
      · rintro (h | ⟨h, k⟩)
        · exact .inl h
        · exact .inr ⟨.inr h, k⟩
      · rintro (h | ⟨rfl | h, k⟩)
        · exact .inl h
        · exact absurd k c
        · exact .inr ⟨h, k⟩
theorem addP_lt (es : List Int) : ∀ (out : List Int), out.Pairwise (· < ·) → (addP ex out es).Pairwise (· < ·) := by
  induction es with
  | nil => intro out h; exact h
  | cons e es ih =>
    intro out h
    show (addP ex (if ex e = true then putP out e else out) es).Pairwise (· < ·)
    refine ih _ ?_
    split
    · exact putP_lt out e h
    · exact h
theorem mem_nextP (xs : List Int) (y : Int) : y ∈ nextP ex kids xs ↔ y ∈ xs ∨ ((∃ x ∈ xs, y ∈ kids x) ∧ ex y = true) := by
  unfold nextP; rw [mem_addP, List.mem_flatMap]
theorem itP_lt : ∀ n (xs : List Int), xs.Pairwise (· < ·) → (itP ex kids n xs).Pairwise (· < ·)
  | 0, _, h => h
  | n + 1, xs, h => itP_lt n _ (addP_lt ex _ _ h)
theorem itP_sub : ∀ n (xs : List Int), ∀ x ∈ xs, x ∈ itP ex kids n xs
  | 0, _, _, h => h
  | n + 1, xs, x, h => itP_sub n _ x ((mem_nextP ex kids xs x).2 (.inl h))
theorem itP_in (K : List Int) (hK : Shut1 ex kids K) : ∀ n (xs : List Int), (∀ x ∈ xs, x ∈ K) → ∀ x ∈ itP ex kids n xs, x ∈ K
  | 0, _, h => h
  | n + 1, xs, h => itP_in K hK n _ (fun x hx => by
    rcases (mem_nextP ex kids xs x).1 hx with hx | ⟨⟨z, hz, hk⟩, he⟩
    · exact h x hx
    · exact hK z (h z hz) x hk he)
theorem itP_fix (xs : List Int) (h : nextP ex kids xs = xs) : ∀ n, itP ex kids n xs = xs
  | 0 => rfl
  | n + 1 => by rw [itP, h]; exact itP_fix xs h n
theorem itP_shut (U : List Int) (hU : ∀ y, ex y = true → y ∈ U) : ∀ n (xs : List Int), xs.Pairwise (· < ·) → (∀ x ∈ xs, x ∈ U) → U.length ≤ xs.length + n → Shut1 ex kids (itP ex kids n xs)
  | 0, xs, h, hs, hl => fun x _ y _ he => nodup_all xs U (lt_nodup h) hs hl y (hU y he)
  | n + 1, xs, h, hs, hl => by
    by_cases c : nextP ex kids xs = xs
    · rw [itP_fix ex kids xs c]
      intro x hx y hy he
      rw [← c]
      exact (mem_nextP ex kids xs y).2 (.inr ⟨⟨x, hx, hy⟩, he⟩)
    · refine itP_shut U hU n _ (addP_lt ex _ _ h) (fun x hx => ?_) ?_
      · rcases (mem_nextP ex kids xs x).1 hx with hx | ⟨_, he⟩
        · exact hs x hx
        · exact hU x he
      · have : xs.length < (nextP ex kids xs).length := by
          apply Classical.byContradiction
          intro hn
          refine c (lt_ext _ _ (addP_lt ex _ _ h) h (fun x => ⟨fun hx => ?_, fun hx => (mem_nextP ex kids xs x).2 (.inl hx)⟩))
          exact nodup_all xs (nextP ex kids xs) (lt_nodup h) (fun y hy => (mem_nextP ex kids xs y).2 (.inl hy)) (by omega) x hx
        omega
/-- Two ways to the closure of 1: the same row. -/
theorem reach_same (U out : List Int) (hU : ∀ y, ex y = true → y ∈ U) (h1 : ex 1 = true) (hn : out.Nodup) (ho : Shut1 ex kids out) (h1o : 1 ∈ out) (hmin : ∀ K : List Int, Shut1 ex kids K → 1 ∈ K → ∀ x ∈ out, x ∈ K) :
    sortI out = itP ex kids U.length [1] := by
  have hs := itP_shut ex kids U hU U.length [1] (List.pairwise_singleton ..) (fun x hx => by rw [List.mem_singleton.1 hx]; exact hU 1 h1) (by omega)
  refine lt_ext _ _ (sortI_lt out hn) (itP_lt ex kids _ _ (List.pairwise_singleton ..)) (fun x => ?_)
  rw [mem_sortI]
  exact ⟨hmin _ hs (itP_sub ex kids _ _ 1 (List.mem_singleton.2 rfl)) x, itP_in ex kids out ho _ _ (fun y hy => by rw [List.mem_singleton.1 hy]; exact h1o) x⟩
end
end Go.Proofs.YtolkhimbfegkkaaGreat.Q
namespace Go.Proofs.YtolkhimbfegkkaaGreat.Q
open Go.RowKit Go.Proofs.YtolkhimbfegkkaaGreat.P Go.Proofs.YtolkhimbfegkkaaGreatW.PrintWords Go.Proofs.YtolkhimbfegkkaaGreatW.PrintLast Go.Proofs.YtolkhimbfegkkaaGreatW.PrintMore

theorem rdI (xs : List Int) (i : Nat) (h : i < xs.length) : rd xs (i : Int) = xs[i] := by
  simp [rd, List.getD_eq_getElem?_getD, List.getElem?_eq_getElem h]
theorem l7Has_ev (xs : List Int) (n : Int) (hl : xs.length ≤ 9223372036854775807) : Ev (fun k => spec_l7Has.f k xs n) (decide (n ∈ xs)) := by
  have key := down (n := xs.length) (P := fun i => Ev (fun k => spec_l7Has.l0 k xs n (i : Nat)) (decide (n ∈ xs.drop i))) (by
      apply evPre
      simp only [spec_l7Has.l0, List.drop_length]
      exact evN (by omega) (evC (Ev.now _) (by simp))) (fun i hi h => by
      apply evPre
      simp only [spec_l7Has.l0, rdI xs i hi]
      rw [nxt i xs.length hi hl, List.drop_eq_getElem_cons hi]
      refine evP (by omega) (evP (by omega) ?_)
      by_cases c : xs[i] = n
      · exact evP c (evC (Ev.now _) (by simp [c]))
      · exact evN c (evC h (decide_eq_decide.2 ⟨fun h => List.mem_cons_of_mem _ h, fun h => (List.mem_cons.1 h).resolve_left (fun e => c e.symm)⟩)))
  simpa [spec_l7Has.f] using key
theorem l7Put_loop (xs : List Int) (n : Int) (hl : xs.length ≤ 17592186044415) : ∀ (j : Nat), j ≤ xs.length → ∀ c : Int, Ev (fun k => spec_l7Put.l0 k n (xs.take j ++ [c] ++ xs.drop j) (j : Nat)) (xs.take (plc xs n j) ++ [n] ++ xs.drop (plc xs n j)) := by
  have hset : ∀ (j : Nat) (c m : Int), j ≤ xs.length → (xs.take j ++ [c] ++ xs.drop j).set j m = xs.take j ++ [m] ++ xs.drop j := fun j c m hj => by
    have ht : (xs.take j).length = j := by rw [List.length_take]; omega
    rw [List.append_assoc, List.set_append_right _ _ (by omega), ht, Nat.sub_self, List.append_assoc]; rfl
  have hlen : ∀ (j : Nat) (c : Int), j ≤ xs.length → (xs.take j ++ [c] ++ xs.drop j).length = xs.length + 1 := fun j c hj => by
    simp only [List.length_append, List.length_take, List.length_drop, List.length_singleton]; omega
  intro j
  induction j with
  | zero =>
    intro hj c
    apply evPre
    simp only [spec_l7Put.l0, hlen 0 c hj, Int.toNat_natCast, hset 0 c n hj, plc]
    exact evN (by omega) (evP (by omega) (evP (by omega) (Ev.now _)))
  | succ j ih =>
    intro hj c
    have hw : wrap64 (((j + 1 : Nat) : Int) - 1) = (j : Nat) := by rw [show ((j + 1 : Nat) : Int) - 1 = (j : Nat) by omega]; exact w64 (by omega) (by omega)
    have hr : rd (xs.take (j + 1) ++ [c] ++ xs.drop (j + 1)) (j : Nat) = xs[j] := by
      rw [rdI _ j (by rw [hlen _ _ hj]; omega)]
      rw [List.getElem_append_left (by simp only [List.length_append, List.length_take, List.length_singleton]; omega), List.getElem_append_left (by rw [List.length_take]; omega), List.getElem_take]
    apply evPre
    simp only [spec_l7Put.l0, hw, hr, hlen _ c hj, Int.toNat_natCast, hset (j + 1) c _ hj]
    refine evP (by omega) (evP (by omega) (evP (by omega) ?_))
    have hg : xs.getD j 0 = xs[j] := by rw [List.getD_eq_getElem?_getD, List.getElem?_eq_getElem (by omega)]; rfl
    by_cases cc : xs[j] > n
    · refine evP cc (evP (by omega) (evP (by omega) ?_))
      have e : xs.take (j + 1) ++ [xs[j]] ++ xs.drop (j + 1) = xs.take j ++ [xs[j]] ++ xs.drop j := by
        rw [List.take_succ_eq_append_getElem (by omega), List.append_assoc, List.append_assoc, List.append_assoc, List.drop_eq_getElem_cons (i := j) (by omega)]; rfl
      rw [e, plc, if_pos (by rw [hg]; exact cc)]
      exact ih (by omega) _
    · refine evN cc (evP (by omega) (evP (by omega) (evC (Ev.now _) ?_)))
      rw [plc, if_neg (by rw [hg]; exact cc)]
theorem l7Put_ev (xs : List Int) (n : Int) (hl : xs.length ≤ 17592186044414) : Ev (fun k => spec_l7Put.f k xs n) (putP xs n) := by
  unfold spec_l7Put.f
  refine Ev.bind (l7Has_ev xs n (by omega)) ?_
  by_cases c : n ∈ xs
  · refine evP (by simp [c]) (evC (Ev.now _) ?_)
    unfold putP; rw [if_pos c]
  · refine evN (by simp [c]) ?_
    simp only [Option.bind_some, List.nil_append, List.length_nil]
    refine evP (by omega) (evP (by omega) ?_)
    have h := l7Put_loop xs n (by omega) xs.length (Nat.le_refl _) n
    rw [List.take_length, List.drop_length, List.append_nil] at h
    have hw : wrap64 (((xs ++ [n]).length : Int) - 1) = (xs.length : Nat) := by
      rw [List.length_append, List.length_singleton, show ((xs.length + 1 : Nat) : Int) - 1 = (xs.length : Nat) by omega]
      exact w64 (by omega) (by omega)
    rw [hw]
    refine evC h ?_
    unfold putP; rw [if_neg c]
end Go.Proofs.YtolkhimbfegkkaaGreat.Q
namespace Go.Proofs.YtolkhimbfegkkaaGreat.Q
open Go.RowKit Go.Proofs.YtolkhimbfegkkaaGreat.P Go.Proofs.YtolkhimbfegkkaaGreatW.PrintWords Go.Proofs.YtolkhimbfegkkaaGreatW.PrintLast Go.Proofs.YtolkhimbfegkkaaGreatW.PrintMore

def kidsI (l : List S47) (n : Int) : List Int := if isAt l n = true ∧ (inoAt l n).f1 = 2 then (inoAt l n).f4.map (·.f1) else []
theorem ex_mem (l : List S47) (n : Int) (h : isAt l n = true) : n ∈ l.map (·.f0) := by
  apply Classical.byContradiction
  intro hn
  have := placeR_none n l 0 (fun x hx e => hn (List.mem_map.2 ⟨x, hx, e⟩))
  unfold isAt at h
  rw [this] at h
  simp at h
/-- A row of numbers that are there, in order. -/
structure RowE (l : List S47) (xs : List Int) : Prop where
  lt : xs.Pairwise (· < ·)
  ex : ∀ x ∈ xs, isAt l x = true
theorem RowE.len {l : List S47} {xs : List Int} (h : RowE l xs) : xs.length ≤ l.length := by
  have := nodup_len xs (l.map (·.f0)) (lt_nodup h.lt) (fun x hx => ex_mem l x (h.ex x hx))
  rwa [List.length_map] at this
theorem RowE.put {l : List S47} {xs : List Int} (h : RowE l xs) (n : Int) (hn : isAt l n = true) : RowE l (putP xs n) :=
  ⟨putP_lt xs n h.lt, fun x hx => by rcases (mem_putP xs n x).1 hx with hx | rfl; exact h.ex x hx; exact hn⟩
theorem l7Next_in (l : List S47) (nx : Int) (xs : List Int) (i : Int) (x : S47) (R : List Int) (hl : l.length ≤ 1048576) (he : x.f4.length ≤ 1048576) (hk : x.f1 = 2)
    (fin : List Int) (hfin : Ev (fun k => spec_l7Next.l0 k xs fin (wrap64 (i + 1)) l nx) R) :
    ∀ (m : Nat), m ≤ x.f4.length → ∀ out, RowE l out → addP (isAt l) out ((x.f4.drop (x.f4.length - m)).map (·.f1)) = fin → Ev (fun k => spec_l7Next.l1 k xs out i true ((x.f4.length - m : Nat) : Int) l nx x.f0 x.f1 x.f2 x.f3 x.f4 x.f5) R := by
  intro m
  induction m with
  | zero =>
    intro _ out ho hf
    rw [Nat.sub_zero, List.drop_length] at hf
    have hf' : out = fin := hf
    subst hf'
    apply evPre
    simp only [spec_l7Next.l1, Nat.sub_zero]
    refine evN (by omega) ?_
    apply evPre
    simp only [spec_l7Next.j2]
    exact evN (by decide) hfin
  | succ m ih =>
    intro hm out ho hf
    have hj : x.f4.length - (m + 1) < x.f4.length := by omega
    have hrd : rd_T63 x.f4 ((x.f4.length - (m + 1) : Nat) : Int) = x.f4[x.f4.length - (m + 1)] := getD_at x.f4 _ _ hj
    rw [List.drop_eq_getElem_cons hj, show x.f4.length - (m + 1) + 1 = x.f4.length - m by omega] at hf
    apply evPre
    simp only [spec_l7Next.l1]
    refine evP (by omega) (evP trivial ?_)
    apply evPre
    simp only [spec_l7Next.j2, hrd]
    rw [nxt _ x.f4.length hj (by omega), show x.f4.length - (m + 1) + 1 = x.f4.length - m by omega]
    refine evP (by simp [hk]) (evP (by omega) (evP (by omega) (Ev.bind (spec_at l nx _ hl) ?_)))
    by_cases c : 0 ≤ placeR x.f4[x.f4.length - (m + 1)].f1 l 0
    · have hx : isAt l x.f4[x.f4.length - (m + 1)].f1 = true := decide_eq_true c
      have hlen := ho.len
      refine evP c (Ev.bind (l7Put_ev out _ (by omega)) (ih (by omega) _ (ho.put _ hx) ?_))
      rw [← hf]
      simp only [addP, List.map_cons, List.foldl_cons, if_pos hx]
    · have hx : ¬ isAt l x.f4[x.f4.length - (m + 1)].f1 = true := by unfold isAt; simpa using c
      refine evN c (ih (by omega) _ ho ?_)
      rw [← hf]
      simp only [addP, List.map_cons, List.foldl_cons, if_neg hx]
theorem l7Next_no (l : List S47) (nx : Int) (xs : List Int) (i : Int) (x : S47) (ok : Bool) (R out : List Int) (hno : ¬ (ok = true ∧ x.f1 = 2)) (hfin : Ev (fun k => spec_l7Next.l0 k xs out (wrap64 (i + 1)) l nx) R) :
    Ev (fun k => spec_l7Next.l1 k xs out i ok 0 l nx x.f0 x.f1 x.f2 x.f3 x.f4 x.f5) R := by
  apply evPre
  simp only [spec_l7Next.l1]
  refine evI' (fun _ => evI' (fun hk => ?_) (fun _ => ?_)) (fun _ => ?_)
  · apply evPre
    simp only [spec_l7Next.j2]
    exact evN (by have : x.f1 ≠ 2 := fun e => hno ⟨hk, e⟩; simpa using this) hfin
  · apply evPre
    simp only [spec_l7Next.j2]
    exact evN (by decide) hfin
  · apply evPre
    simp only [spec_l7Next.j2]
    exact evN (by decide) hfin
theorem addP_append (ex : Int → Bool) (out a b : List Int) : addP ex out (a ++ b) = addP ex (addP ex out a) b := List.foldl_append
theorem RowE.add {l : List S47} {out : List Int} (h : RowE l out) (es : List Int) : RowE l (addP (isAt l) out es) :=
  ⟨addP_lt _ _ _ h.lt, fun x hx => by rcases (mem_addP (isAt l) es out x).1 hx with hx | ⟨_, hx⟩; exact h.ex x hx; exact hx⟩
theorem l7Next_ev (l : List S47) (nx : Int) (xs : List Int) (hl : l.length ≤ 1048576) (hs : ∀ x ∈ l, InoA x) (hx : RowE l xs) : Ev (fun k => spec_l7Next.f k l nx xs) (nextP (isAt l) (kidsI l) xs) := by
  have hlen := hx.len
  have key := down (n := xs.length) (P := fun i => Ev (fun k => spec_l7Next.l0 k xs (addP (isAt l) xs ((xs.take i).flatMap (kidsI l))) (i : Nat) l nx) (nextP (isAt l) (kidsI l) xs)) (by
      apply evPre
      simp only [spec_l7Next.l0, List.take_length]
      exact evN (by omega) (Ev.now _)) (fun i hi h => by
      have hrd := rdI xs i hi
      have hst : addP (isAt l) xs ((xs.take (i + 1)).flatMap (kidsI l)) = addP (isAt l) (addP (isAt l) xs ((xs.take i).flatMap (kidsI l))) (kidsI l xs[i]) := by
        rw [List.take_succ_eq_append_getElem hi, List.flatMap_append, addP_append]; simp
      rw [hst] at h
      have ho := hx.add ((xs.take i).flatMap (kidsI l))
      generalize addP (isAt l) xs ((xs.take i).flatMap (kidsI l)) = out at h ho ⊢
      apply evPre
      simp only [spec_l7Next.l0, hrd]
      refine evP (by omega) (evP (by omega) (Ev.bind (spec_inodeAt l nx xs[i] hl hs) ?_))
      have hsm := inoAt_small l xs[i] hs
      rw [← nxt i xs.length hi (by omega)] at h
      dsimp only
      by_cases c : isAt l xs[i] = true ∧ (inoAt l xs[i]).f1 = 2
      · have hk : kidsI l xs[i] = (inoAt l xs[i]).f4.map (·.f1) := if_pos c
        rw [hk] at h
        have := l7Next_in l nx xs i (inoAt l xs[i]) _ hl hsm.e c.2 _ h _ (Nat.le_refl _) out ho (by rw [Nat.sub_self, List.drop_zero])
        rw [Nat.sub_self] at this
        rw [c.1]
        exact this
      · have hk : kidsI l xs[i] = [] := if_neg c
        rw [hk] at h
        exact l7Next_no l nx xs i (inoAt l xs[i]) _ _ out c h)
  simpa [spec_l7Next.f, addP] using key
theorem RowE.next {l : List S47} {xs : List Int} (h : RowE l xs) : RowE l (nextP (isAt l) (kidsI l) xs) := h.add _
theorem spec_reached (l : List S47) (nx : Int) (hl : l.length ≤ 1048576) (hs : ∀ x ∈ l, InoA x) : Ev (fun k => spec_Reached.f k l nx) (if isAt l 1 = true then itP (isAt l) (kidsI l) l.length [1] else []) := by
  unfold spec_Reached.f
  simp only [Option.bind_some]
  refine Ev.bind (spec_at l nx 1 hl) ?_
  by_cases c : placeR 1 l 0 < 0
  · have : ¬ isAt l 1 = true := by unfold isAt; simp; omega
    exact evP c (evC (Ev.now _) (by rw [if_neg this]))
  · have h1 : isAt l 1 = true := decide_eq_true (by omega)
    rw [if_pos h1]
    refine evN c (evP (by simp) ?_)
    have key : ∀ (m : Nat), m ≤ l.length → ∀ xs, RowE l xs → Ev (fun k => spec_Reached.l0 k xs ((l.length - m : Nat) : Int) l nx) (itP (isAt l) (kidsI l) m xs) := by
      intro m
      induction m with
      | zero =>
        intro _ xs _
        apply evPre
        simp only [spec_Reached.l0]
        exact evN (by omega) (Ev.now _)
      | succ m ih =>
        intro hm xs hx
        apply evPre
        simp only [spec_Reached.l0]
        refine evP (by omega) (Ev.bind (l7Next_ev l nx xs hl hs hx) ?_)
        rw [nxt _ l.length (by omega) (by omega), show l.length - (m + 1) + 1 = l.length - m by omega]
        exact ih (by omega) _ hx.next
    have := key l.length (Nat.le_refl _) [1] ⟨List.pairwise_singleton .., fun x hx => by rw [List.mem_singleton.1 hx]; exact h1⟩
    rw [Nat.sub_self] at this
    exact this
end Go.Proofs.YtolkhimbfegkkaaGreat.Q
namespace Go.Proofs.YtolkhimbfegkkaaGreat.Q
open Go.RowKit Go.Proofs.YtolkhimbfegkkaaGreat.P Go.Proofs.YtolkhimbfegkkaaGreatW.PrintWords Go.Proofs.YtolkhimbfegkkaaGreatW.PrintLast Go.Proofs.YtolkhimbfegkkaaGreatW.PrintMore

theorem iReached_in (l : List S47) (nx : Int) (out : List Int) (e : List S63) (R : List Int) (he : e.length ≤ 1048576) :
    ∀ (m : Nat), m ≤ e.length → ∀ q, q.length + m < 17592186044416 → Ev (fun k => impl_Reached.l0 k out (q ++ (e.drop (e.length - m)).map (·.f1)) l nx) R → Ev (fun k => impl_Reached.l1 k out q e (e.length : Int) ((e.length - m : Nat) : Int) l nx) R := by
  intro m
  induction m with
  | zero =>
    intro _ q _ h
    rw [Nat.sub_zero, List.drop_length, List.map_nil, List.append_nil] at h
    apply evPre
    simp only [impl_Reached.l1, Nat.sub_zero]
    exact evN (by omega) h
  | succ m ih =>
    intro hm q hq h
    have hj : e.length - (m + 1) < e.length := by omega
    have hrd : rd_T63 e ((e.length - (m + 1) : Nat) : Int) = e[e.length - (m + 1)] := getD_at e _ _ hj
    rw [List.drop_eq_getElem_cons hj, show e.length - (m + 1) + 1 = e.length - m by omega, List.map_cons] at h
    apply evPre
    simp only [impl_Reached.l1, hrd]
    rw [nxt _ e.length hj (by omega), show e.length - (m + 1) + 1 = e.length - m by omega]
    refine evP (by omega) (evP (by omega) (evP (by omega) (evP (by omega) (ih (by omega) _ (by simp only [List.length_append, List.length_singleton]; omega) ?_))))
    rw [List.append_assoc]
    exact h
structure InvR (l : List S47) (out q : List Int) : Prop where
  nd : out.Nodup
  ex : ∀ x ∈ out, isAt l x = true
  sh : ∀ x ∈ out, ∀ y ∈ kidsI l x, isAt l y = true → y ∈ out ∨ y ∈ q
  one : isAt l 1 = true → 1 ∈ out ∨ 1 ∈ q
  mi : ∀ K : List Int, Shut1 (isAt l) (kidsI l) K → (isAt l 1 = true → 1 ∈ K) → (∀ x ∈ out, x ∈ K) ∧ ∀ y ∈ q, isAt l y = true → y ∈ K
  ln : q.length ≤ 1 + out.length * 1048576
theorem InvR.len {l : List S47} {out q : List Int} (h : InvR l out q) : out.length ≤ l.length := by
  have := nodup_len out (l.map (·.f0)) h.nd (fun x hx => ex_mem l x (h.ex x hx))
  rwa [List.length_map] at this
theorem kidsI_len (l : List S47) (n : Int) (hs : ∀ x ∈ l, InoA x) : (kidsI l n).length ≤ 1048576 := by
  have h := (inoAt_small l n hs).e
  unfold kidsI
  split
  · rwa [List.length_map]
  · simp
theorem InvR.old {l : List S47} {out q : List Int} {n : Int} (h : InvR l out (n :: q)) (ho : ¬ (isAt l n = true ∧ n ∉ out)) : InvR l out q := by
  have hn : isAt l n = true → n ∈ out := fun e => Classical.byContradiction fun c => ho ⟨e, c⟩
  refine ⟨h.nd, h.ex, fun x hx y hy he => ?_, fun e => ?_, fun K hK h1 => ⟨(h.mi K hK h1).1, fun y hy => (h.mi K hK h1).2 y (List.mem_cons_of_mem _ hy)⟩, by have := h.ln; simp only [List.length_cons] at this; omega⟩
  · rcases h.sh x hx y hy he with a | a
    · exact .inl a
    · rcases List.mem_cons.1 a with rfl | a
      · exact .inl (hn he)
      · exact .inr a
  · rcases h.one e with a | a
    · exact .inl a
    · rcases List.mem_cons.1 a with a | a
      · exact .inl (a ▸ hn (a ▸ e))
      · exact .inr a
theorem InvR.new {l : List S47} {out q : List Int} {n : Int} (hs : ∀ x ∈ l, InoA x) (h : InvR l out (n :: q)) (he : isAt l n = true) (hn : n ∉ out) : InvR l (out ++ [n]) (q ++ kidsI l n) := by
  have hk := kidsI_len l n hs
  refine ⟨?_, fun x hx => ?_, fun x hx y hy hey => ?_, fun e => ?_, fun K hK h1 => ⟨fun x hx => ?_, fun y hy hey => ?_⟩, ?_⟩
  · rw [List.nodup_append]
    exact ⟨h.nd, by simp, fun a ha b hb => by rw [List.mem_singleton.1 hb]; exact fun e => hn (e ▸ ha)⟩
  · rcases List.mem_append.1 hx with hx | hx
    · exact h.ex x hx
    · rw [List.mem_singleton.1 hx]; exact he
  · rcases List.mem_append.1 hx with hx | hx
    · rcases h.sh x hx y hy hey with a | a
      · exact .inl (List.mem_append.2 (.inl a))
      · rcases List.mem_cons.1 a with rfl | a
        · exact .inl (List.mem_append.2 (.inr (List.mem_singleton.2 rfl)))
        · exact .inr (List.mem_append.2 (.inl a))
    · rw [List.mem_singleton.1 hx] at hy
      exact .inr (List.mem_append.2 (.inr hy))
  · rcases h.one e with a | a
    · exact .inl (List.mem_append.2 (.inl a))
    · rcases List.mem_cons.1 a with a | a
      · exact .inl (List.mem_append.2 (.inr (List.mem_singleton.2 a)))
      · exact .inr (List.mem_append.2 (.inl a))
  · rcases List.mem_append.1 hx with hx | hx
    · exact (h.mi K hK h1).1 x hx
    · rw [List.mem_singleton.1 hx]; exact (h.mi K hK h1).2 n (List.mem_cons_self ..) he
  · rcases List.mem_append.1 hy with hy | hy
    · exact (h.mi K hK h1).2 y (List.mem_cons_of_mem _ hy) hey
    · exact hK n ((h.mi K hK h1).2 n (List.mem_cons_self ..) he) y hy hey
  · have := h.ln
    simp only [List.length_append, List.length_cons, List.length_singleton, List.length_nil] at this ⊢
    omega
theorem iReached_step (l : List S47) (nx : Int) (hl : l.length ≤ 1048576) (hs : ∀ x ∈ l, InoA x) (out q : List Int) (n : Int) (R : List Int) (hi : InvR l out (n :: q))
    (hold : ¬ (isAt l n = true ∧ n ∉ out) → Ev (fun k => impl_Reached.l0 k out q l nx) R) (hnew : isAt l n = true → n ∉ out → Ev (fun k => impl_Reached.l0 k (out ++ [n]) (q ++ kidsI l n) l nx) R) : Ev (fun k => impl_Reached.l0 k out (n :: q) l nx) R := by
  have hlen := hi.len
  have hln := hi.ln
  simp only [List.length_cons] at hln
  have hrd : rd (n :: q) 0 = n := rfl
  have hdr : (n :: q).drop (1 : Int).toNat = q := rfl
  have hsm := inoAt_small l n hs
  apply evPre
  simp only [impl_Reached.l0, hrd, hdr, Option.bind_some]
  refine evP (by simp only [List.length_cons]; omega) (evP (by simp only [List.length_cons]; omega) (evP (by simp only [List.length_cons]; omega) (Ev.bind (impl_inodeAt l nx n hl hs) ?_)))
  dsimp only
  by_cases c : isAt l n = true
  · have hc : slices_Contains_int_int.f out n = some (out.contains n) := by unfold slices_Contains_int_int.f; rw [if_pos (by omega)]
    refine evP c ?_
    simp only [hc, Option.bind_some]
    by_cases cc : n ∈ out
    · have : out.contains n = true := by simpa using cc
      rw [this]
      apply evPre
      simp only [impl_Reached.j1]
      exact evP trivial (hold (fun h => h.2 cc))
    · have : out.contains n = false := by simpa using cc
      rw [this]
      have h := hnew c cc
      apply evPre
      simp only [impl_Reached.j1, Option.bind_some]
      refine evN (by decide) (evP (by omega) ?_)
      by_cases hk : (inoAt l n).f1 = 2
      · have e : kidsI l n = (inoAt l n).f4.map (·.f1) := if_pos ⟨c, hk⟩
        rw [e] at h
        refine evP hk ?_
        have hln2 : out.length * 1048576 ≤ 1048576 * 1048576 := Nat.mul_le_mul_right _ (by omega)
        have he := hsm.e
        have := iReached_in l nx (out ++ [n]) (inoAt l n).f4 R hsm.e _ (Nat.le_refl _) q (by omega) (by rw [Nat.sub_self, List.drop_zero]; exact h)
        rw [Nat.sub_self] at this
        exact this
      · have e : kidsI l n = [] := if_neg (fun h => hk h.2)
        rw [e, List.append_nil] at h
        exact evN hk h
  · refine evN c ?_
    apply evPre
    simp only [impl_Reached.j1]
    exact evP trivial (hold (fun h => c h.1))
theorem iReached_loop (l : List S47) (nx : Int) (hl : l.length ≤ 1048576) (hs : ∀ x ∈ l, InoA x) : ∀ (d : Nat) (q out : List Int), l.length - out.length ≤ d → InvR l out q → ∃ o, Ev (fun k => impl_Reached.l0 k out q l nx) (sortI o) ∧ InvR l o [] := by
  intro d
  induction d with
  | zero =>
    intro q
    induction q with
    | nil =>
      intro out _ h
      refine ⟨out, ?_, h⟩
      have := h.len
      apply evPre
      simp only [impl_Reached.l0]
      exact evN (by simp) (evP (by omega) (Ev.now _))
    | cons n q ihq =>
      intro out hd h
      by_cases c : isAt l n = true ∧ n ∉ out
      · have := (h.new hs c.1 c.2).len
        simp only [List.length_append, List.length_singleton] at this
        omega
      · obtain ⟨o, ho, hi⟩ := ihq out hd (h.old c)
        exact ⟨o, iReached_step l nx hl hs out q n _ h (fun _ => ho) (fun a b => absurd ⟨a, b⟩ c), hi⟩
  | succ d ih =>
    intro q
    induction q with
    | nil =>
      intro out _ h
      refine ⟨out, ?_, h⟩
      have := h.len
      apply evPre
      simp only [impl_Reached.l0]
      exact evN (by simp) (evP (by omega) (Ev.now _))
    | cons n q ihq =>
      intro out hd h
      by_cases c : isAt l n = true ∧ n ∉ out
      · obtain ⟨o, ho, hi⟩ := ih (q ++ kidsI l n) (out ++ [n]) (by simp only [List.length_append, List.length_singleton]; omega) (h.new hs c.1 c.2)
        exact ⟨o, iReached_step l nx hl hs out q n _ h (fun a => absurd c a) (fun _ _ => ho), hi⟩
      · obtain ⟨o, ho, hi⟩ := ihq out hd (h.old c)
        exact ⟨o, iReached_step l nx hl hs out q n _ h (fun _ => ho) (fun a b => absurd ⟨a, b⟩ c), hi⟩
theorem impl_reached (l : List S47) (nx : Int) (hl : l.length ≤ 1048576) (hs : ∀ x ∈ l, InoA x) : Ev (fun k => impl_Reached.f k l nx) (if isAt l 1 = true then itP (isAt l) (kidsI l) l.length [1] else []) := by
  obtain ⟨o, ho, hi⟩ := iReached_loop l nx hl hs l.length [1] [] (by omega) ⟨List.nodup_nil, (fun x hx => by cases hx), (fun x hx => by cases hx), (fun _ => .inr (List.mem_singleton.2 rfl)), (fun K hK h1 => ⟨(fun x hx => by cases hx), (fun y hy he => by rw [List.mem_singleton.1 hy] at he ⊢; exact h1 he)⟩), by simp⟩
  unfold impl_Reached.f
  refine evC ho ?_
  by_cases c : isAt l 1 = true
  · rw [if_pos c]
    have h1o : 1 ∈ o := (hi.one c).resolve_right (by simp)
    have := reach_same (isAt l) (kidsI l) (l.map (·.f0)) o (fun y hy => ex_mem l y hy) c hi.nd (fun x hx y hy he => (hi.sh x hx y hy he).resolve_right (by simp)) h1o (fun K hK h1 => (hi.mi K hK (fun _ => h1)).1)
    rw [List.length_map] at this
    exact this
  · rw [if_neg c]
    have : o = [] := List.eq_nil_iff_forall_not_mem.2 (fun x hx => by have := (hi.mi [] (fun x hx => by cases hx) (fun e => absurd e c)).1 x hx; cases this)
    rw [this]
    exact List.eq_nil_of_length_eq_zero (by rw [sortI_length]; rfl)
end Go.Proofs.YtolkhimbfegkkaaGreat.Q
namespace Go.Proofs.YtolkhimbfegkkaaGreat.Q
open Go.RowKit Go.Proofs.YtolkhimbfegkkaaGreat.P Go.Proofs.YtolkhimbfegkkaaGreatW.PrintWords Go.Proofs.YtolkhimbfegkkaaGreatW.PrintLast Go.Proofs.YtolkhimbfegkkaaGreatW.PrintMore

theorem linksOf_le (n : Int) (l : List S47) (h : ∀ x ∈ l, x.f4.length ≤ 1048576) : linksOf n l ≤ l.length * 1048576 := by
  induction l with
  | nil => simp [linksOf]
  | cons x m ih =>
    have e : inoLinks n x ≤ 1048576 := by
      have := h x (List.mem_cons_self ..)
      unfold inoLinks
      split
      · have := List.length_filter_le (fun y : S63 => decide (y.f1 = n)) x.f4
        unfold entLinks; omega
      · omega
    have := ih (fun y hy => h y (List.mem_cons_of_mem _ hy))
    simp only [linksOf, List.map_cons, List.sum_cons, List.length_cons] at this ⊢
    omega
def entsIn (l : List S47) (e : List S63) : Bool := e.all fun x => isAt l x.f1
def treeL (l xs : List S47) : Bool := xs.all fun x => decide (x.f2 = (linksOf x.f0 l : Int)) && entsIn l x.f4
def reachP (l : List S47) : List Int := if isAt l 1 = true then itP (isAt l) (kidsI l) l.length [1] else []
def treeOk (l : List S47) (nx : Int) : Bool := tabOk l nx && (decide ((reachP l).length = l.length) && treeL l l)
theorem treeL_drop (l : List S47) (i : Nat) (hi : i < l.length) : treeL l (l.drop i) = (decide (l[i].f2 = (linksOf l[i].f0 l : Int)) && entsIn l l[i].f4 && treeL l (l.drop (i + 1))) := by
  unfold treeL; rw [List.drop_eq_getElem_cons hi, List.all_cons]
theorem entsIn_drop (l : List S47) (e : List S63) (j : Nat) (hj : j < e.length) : entsIn l (e.drop j) = (isAt l e[j].f1 && entsIn l (e.drop (j + 1))) := by
  unfold entsIn; rw [List.drop_eq_getElem_cons hj, List.all_cons]
theorem spec_tree_ents (l : List S47) (nx i : Int) (x : S47) (Z : Bool) (hl : l.length ≤ 1048576) (he : x.f4.length ≤ 1048576) (hfin : Ev (fun k => spec_TreeOk.l0 k (wrap64 (i + 1)) l nx) Z) :
    Ev (fun k => spec_TreeOk.l1 k i 0 l nx x.f0 x.f1 x.f2 x.f3 x.f4 x.f5) (entsIn l x.f4 && Z) := by
  have key := down (n := x.f4.length) (P := fun j => Ev (fun k => spec_TreeOk.l1 k i (j : Nat) l nx x.f0 x.f1 x.f2 x.f3 x.f4 x.f5) (entsIn l (x.f4.drop j) && Z)) (by
      apply evPre
      simp only [spec_TreeOk.l1, List.drop_length]
      exact evN (by omega) hfin) (fun j hj h => by
      have hrd : rd_T63 x.f4 (j : Int) = x.f4[j] := getD_at x.f4 _ j hj
      apply evPre
      simp only [spec_TreeOk.l1, hrd]
      rw [nxt j x.f4.length hj (by omega), entsIn_drop l x.f4 j hj]
      refine evP (by omega) (evP (by omega) (Ev.bind (spec_at l nx _ hl) ?_))
      by_cases c : placeR x.f4[j].f1 l 0 < 0
      · refine evP c (evC (Ev.now _) ?_)
        unfold isAt; rw [decide_eq_false (by omega)]; rfl
      · refine evN c (evC h ?_)
        unfold isAt; rw [decide_eq_true (by omega)]; rfl)
  simpa using key
theorem spec_tree_loop (l : List S47) (nx : Int) (hl : l.length ≤ 1048576) (hs : ∀ x ∈ l, x.f4.length ≤ 1048576) : Ev (fun k => spec_TreeOk.l0 k 0 l nx) (treeL l l) := by
  have key := down (n := l.length) (P := fun i => Ev (fun k => spec_TreeOk.l0 k (i : Nat) l nx) (treeL l (l.drop i))) (by
      apply evPre
      simp only [spec_TreeOk.l0, List.drop_length]
      exact evN (by omega) (Ev.now _)) (fun i hi h => by
      have hrd : rd_T47 l (i : Int) = l[i] := getD_at l _ i hi
      have hx := hs _ (List.getElem_mem hi)
      have hu := linksOf_le l[i].f0 l hs
      have hu2 : l.length * 1048576 ≤ 1048576 * 1048576 := Nat.mul_le_mul_right _ hl
      rw [← nxt i l.length hi (by omega)] at h
      apply evPre
      simp only [spec_TreeOk.l0, hrd]
      rw [treeL_drop l i hi]
      refine evP (by omega) (evP (by omega) (Ev.bind (spec_links l nx _ hl hs (by omega)) ?_))
      by_cases c : ((linksOf l[i].f0 l : Nat) : Int) = l[i].f2
      · refine evP c (evC (spec_tree_ents l nx i l[i] _ hl hx h) ?_)
        rw [decide_eq_true c.symm, Bool.true_and]
      · refine evN c (evC (Ev.now _) ?_)
        rw [decide_eq_false (fun e => c e.symm)]; rfl)
  simpa using key
theorem spec_treeOk (l : List S47) (nx : Int) (hl : l.length ≤ 1048576) (hs : ∀ x ∈ l, InoT x) : Ev (fun k => spec_TreeOk.f k l nx) (treeOk l nx) := by
  have hA : ∀ x ∈ l, InoA x := fun x hx => ⟨(hs x hx).d, (hs x hx).e, (hs x hx).t⟩
  unfold spec_TreeOk.f treeOk
  refine Ev.bind (spec_tabOk l nx hl hs) ?_
  by_cases c1 : tabOk l nx = true
  · refine evP c1 (Ev.bind (spec_reached l nx hl hA) ?_)
    rw [c1, Bool.true_and]
    change Ev (fun k => spec_TreeOk.j0 k (((reachP l).length : Int) != (l.length : Int)) l nx) _
    apply evPre
    simp only [spec_TreeOk.j0]
    by_cases c2 : (reachP l).length = l.length
    · refine evN (by simp [c2]) (evC (spec_tree_loop l nx hl (fun x hx => (hs x hx).e)) ?_)
      rw [decide_eq_true c2, Bool.true_and]
    · refine evP (by simp; omega) (evC (Ev.now _) ?_)
      rw [decide_eq_false c2]; rfl
  · refine evN c1 ?_
    apply evPre
    simp only [spec_TreeOk.j0]
    refine evP trivial (evC (Ev.now _) ?_)
    rw [show tabOk l nx = false by simpa using c1]; rfl
theorem impl_tree_ents (l : List S47) (nx i : Int) (e : List S63) (Z : Bool) (hl : l.length ≤ 1048576) (he : e.length ≤ 1048576) (hfin : Ev (fun k => impl_TreeOk.l0 k l (l.length : Int) (wrap64 (i + 1)) l nx) Z) :
    Ev (fun k => impl_TreeOk.l1 k l (l.length : Int) i e (e.length : Int) 0 l nx) (entsIn l e && Z) := by
  have key := down (n := e.length) (P := fun j => Ev (fun k => impl_TreeOk.l1 k l (l.length : Int) i e (e.length : Int) (j : Nat) l nx) (entsIn l (e.drop j) && Z)) (by
      apply evPre
      simp only [impl_TreeOk.l1, List.drop_length]
      exact evN (by omega) hfin) (fun j hj h => by
      have hrd : rd_T63 e (j : Int) = e[j] := getD_at e _ j hj
      apply evPre
      simp only [impl_TreeOk.l1, hrd]
      rw [nxt j e.length hj (by omega), entsIn_drop l e j hj]
      have hp : Ev (fun k => impl_placeOf.f k l nx e[j].f1) (placeR e[j].f1 l 0) := by unfold impl_placeOf.f; exact evP (by omega) (Ev.now _)
      refine evP (by omega) (evP (by omega) (evP (by omega) (Ev.bind hp ?_)))
      by_cases c : placeR e[j].f1 l 0 < 0
      · refine evP c (evC (Ev.now _) ?_)
        unfold isAt; rw [decide_eq_false (by omega)]; rfl
      · refine evN c (evC h ?_)
        unfold isAt; rw [decide_eq_true (by omega)]; rfl)
  simpa using key
theorem impl_tree_loop (l : List S47) (nx : Int) (hl : l.length ≤ 1048576) (hs : ∀ x ∈ l, x.f4.length ≤ 1048576) : Ev (fun k => impl_TreeOk.l0 k l (l.length : Int) 0 l nx) (treeL l l) := by
  have key := down (n := l.length) (P := fun i => Ev (fun k => impl_TreeOk.l0 k l (l.length : Int) (i : Nat) l nx) (treeL l (l.drop i))) (by
      apply evPre
      simp only [impl_TreeOk.l0, List.drop_length]
      exact evN (by omega) (Ev.now _)) (fun i hi h => by
      have hrd : rd_T47 l (i : Int) = l[i] := getD_at l _ i hi
      have hx := hs _ (List.getElem_mem hi)
      have hu := linksOf_le l[i].f0 l hs
      have hu2 : l.length * 1048576 ≤ 1048576 * 1048576 := Nat.mul_le_mul_right _ hl
      rw [← nxt i l.length hi (by omega)] at h
      apply evPre
      simp only [impl_TreeOk.l0, hrd]
      rw [treeL_drop l i hi]
      refine evP (by omega) (evP (by omega) (evP (by omega) (Ev.bind (impl_links l nx _ hl hs (by omega)) ?_)))
      by_cases c : l[i].f2 = ((linksOf l[i].f0 l : Nat) : Int)
      · refine evP c (evC (impl_tree_ents l nx i l[i].f4 _ hl hx h) ?_)
        rw [decide_eq_true c, Bool.true_and]
      · refine evN c (evC (Ev.now _) ?_)
        rw [decide_eq_false c]; rfl)
  simpa using key
theorem impl_treeOk (l : List S47) (nx : Int) (hl : l.length ≤ 1048576) (hs : ∀ x ∈ l, InoT x) : Ev (fun k => impl_TreeOk.f k l nx) (treeOk l nx) := by
  have hA : ∀ x ∈ l, InoA x := fun x hx => ⟨(hs x hx).d, (hs x hx).e, (hs x hx).t⟩
  unfold impl_TreeOk.f treeOk
  refine Ev.bind (impl_tabOk l nx hl hs) ?_
  by_cases c1 : tabOk l nx = true
  · refine evP c1 (Ev.bind (impl_reached l nx hl hA) ?_)
    rw [c1, Bool.true_and]
    change Ev (fun k => impl_TreeOk.j0 k (((reachP l).length : Int) != (l.length : Int)) l nx) _
    apply evPre
    simp only [impl_TreeOk.j0]
    by_cases c2 : (reachP l).length = l.length
    · refine evN (by simp [c2]) (evC (impl_tree_loop l nx hl (fun x hx => (hs x hx).e)) ?_)
      rw [decide_eq_true c2, Bool.true_and]
    · refine evP (by simp; omega) (evC (Ev.now _) ?_)
      rw [decide_eq_false c2]; rfl
  · refine evN c1 ?_
    apply evPre
    simp only [impl_TreeOk.j0]
    refine evP trivial (evC (Ev.now _) ?_)
    rw [show tabOk l nx = false by simpa using c1]; rfl
end Go.Proofs.YtolkhimbfegkkaaGreat.Q
namespace Go.Proofs.YtolkhimbfegkkaaGreat.Q
open Go.RowKit Go.Proofs.YtolkhimbfegkkaaGreat.P Go.Proofs.YtolkhimbfegkkaaGreatW.PrintWords Go.Proofs.YtolkhimbfegkkaaGreatW.PrintLast Go.Proofs.YtolkhimbfegkkaaGreatW.PrintMore

theorem InoT.a {x : S47} (h : InoT x) : InoA x := ⟨h.d, h.e, h.t⟩
theorem rdS (l : List ByteArray) (i : Nat) (h : i < l.length) : rdOf ByteArray.empty l (i : Int) = l[i] := getD_at l _ i h
theorem nxtJ (i : Nat) (n : Nat) (hi : i < n) (hn : n ≤ 9223372036854775807) : wrap64 ((i : Int) + 1) = ((i + 1 : Nat) : Int) := by
  rw [w64 (by omega) (by omega)]; omega
end Go.Proofs.YtolkhimbfegkkaaGreat.Q
namespace Go.Proofs.YtolkhimbfegkkaaGreat.Q
open Go.RowKit Go.Proofs.YtolkhimbfegkkaaGreat.P Go.Proofs.YtolkhimbfegkkaaGreatW.PrintWords Go.Proofs.YtolkhimbfegkkaaGreatW.PrintLast Go.Proofs.YtolkhimbfegkkaaGreatW.PrintMore

def HeldN (a : Int) (l : List ByteArray) : Prop := ∀ (i : Nat) (h : i < l.length), Ev (fun k => laws_markText.f k (a + i)) l[i]
theorem heldStringS (l : List ByteArray) (a : Int) (h0 : 1 ≤ a) (h1 : a + l.length ≤ 4611686018427387904) (hh : HeldN a l) : Ev (fun k => laws_heldStringS.f k l a) (a + l.length) := by
  unfold laws_heldStringS.f
  have key := down (n := l.length) (P := fun i => Ev (fun k => laws_heldStringS.l0 k l (a + i) (i : Nat)) (a + l.length)) (by
    apply evPre
    simp only [laws_heldStringS.l0]
    exact evN (by omega) (Ev.now _)) (fun i hi ih => by
    have hn : wrap64 (a + (i : Int) + 1) = a + ((i + 1 : Nat) : Int) := by rw [w64 (by omega) (by omega)]; omega
    apply evPre
    simp only [laws_heldStringS.l0]
    rw [rdS l i hi, nxt i l.length hi (by omega), hn]
    exact evP (by omega) (evP (by omega) (Ev.bind (hh i hi) (evP rfl ih))))
  simpa using key
theorem markStringS (l : List ByteArray) (a : Int) (h0 : 1 ≤ a) (h1 : a + l.length ≤ 4611686018427387904) : ∃ r, Ev (fun k => laws_markStringS.f k l a) (a + l.length, r) ∧ r.length = l.length ∧ HeldN a r := by
  have key := down (n := l.length) (P := fun i => ∀ y : List ByteArray, y.length = l.length → HeldN a (y.take i) → ∃ r, Ev (fun k => laws_markStringS.l0 k y (a + i) (i : Nat)) (a + l.length, r) ∧ r.length = l.length ∧ HeldN a r) (by
    intro y hy hh
    refine ⟨y, ?_, hy, by rw [← hy, List.take_length] at hh; exact hh⟩
    apply evPre
    simp only [laws_markStringS.l0]
    exact evN (by omega) (Ev.now _)) (fun i hi ih => by
    intro y hy hh
    obtain ⟨s, hs⟩ := mtext (a + i) (by omega) (by omega)
    have hn : wrap64 (a + (i : Int) + 1) = a + ((i + 1 : Nat) : Int) := by rw [w64 (by omega) (by omega)]; omega
    obtain ⟨r, e, hr, hhr⟩ := ih (y.set i s) (by rw [List.length_set]; exact hy) (by
      rw [take_set_at y i s (by omega)]
      intro j hj
      by_cases c : j < i
      · rw [List.getElem_append_left (by rw [List.length_take]; omega)]
        exact hh j (by rw [List.length_take]; omega)
      · have hj' : j = i := by rw [List.length_append, List.length_take] at hj; simp at hj; omega
        subst hj'
        rw [List.getElem_append_right (by rw [List.length_take]; omega)]
        simpa using hs)
    refine ⟨r, ?_, hr, hhr⟩
    apply evPre
    simp only [laws_markStringS.l0]
    rw [nxt i l.length hi (by omega), hn]
    refine evP (by omega) (Ev.bind hs (evP (by omega) ?_))
    simpa using e)
  unfold laws_markStringS.f
  simpa using key l rfl (by intro j hj; simp at hj)
theorem eqStringS_same (l : List ByteArray) (hl : l.length ≤ 9223372036854775807) : Ev (fun k => laws_eqStringS.f k l l) true := by
  unfold laws_eqStringS.f
  refine evP rfl ?_
  refine ev_scan (fun k i => laws_eqStringS.l0 k l l i) l.length true ?_ (fun i hi h => ?_)
  · apply evPre
    simp only [laws_eqStringS.l0]
    exact evN (by omega) (Ev.now _)
  · apply evPre
    simp only [laws_eqStringS.l0]
    rw [nxtJ i l.length hi (by omega)]
    exact evP (by omega) (evP (by omega) (evP (by omega) (evP (by trivial) h)))
end Go.Proofs.YtolkhimbfegkkaaGreat.Q
namespace Go.Proofs.YtolkhimbfegkkaaGreat.Q
open Go.RowKit Go.Proofs.YtolkhimbfegkkaaGreat.P Go.Proofs.YtolkhimbfegkkaaGreatW.PrintWords Go.Proofs.YtolkhimbfegkkaaGreatW.PrintLast Go.Proofs.YtolkhimbfegkkaaGreatW.PrintMore

theorem leastN (P : Nat → Prop) : ∀ n, P n → ∃ m, P m ∧ ∀ i, P i → m ≤ i := by
  intro n
  induction n using Nat.strongRecOn with
  | ind n ih =>
    intro h
    by_cases c : ∃ i, i < n ∧ P i
    · obtain ⟨i, hi, hp⟩ := c
      exact ih i hi hp
    · exact ⟨n, h, fun i hi => Nat.le_of_not_lt fun hl => c ⟨i, hl, hi⟩⟩
section
variable (ex : Int → Bool) (kids : Int → List Int)
theorem itP_next : ∀ n (xs : List Int), itP ex kids (n + 1) xs = nextP ex kids (itP ex kids n xs)
  | 0, _ => rfl
  | n + 1, xs => itP_next n (nextP ex kids xs)
/-- A tree: what has kids has one way to it, is not 1, and all that is there is reached. -/
structure IsTree (N : Nat) : Prop where
  one : ∀ p q x, x ∈ kids p → x ∈ kids q → kids x ≠ [] → p = q
  nd : ∀ p, (kids p).Pairwise (fun a b => kids a ≠ [] → a ≠ b)
  no1 : ∀ p, 1 ∉ kids p
  all : ∀ x, kids x ≠ [] → x ∈ itP ex kids N [1]
def below : Nat → Int → List Int
  | 0, _ => []
  | k + 1, x => if kids x = [] then [] else x :: (kids x).flatMap (below k)
def cntB : Nat → Int → Nat
  | 0, _ => 0
  | k + 1, x => ((kids x).map fun y => 1 + cntB k y).sum
inductive Des (c : Int) : Int → Prop
  | refl : Des c c
  | step {p x : Int} : Des c p → x ∈ kids p → Des c x
theorem Des.first {c y x : Int} (hy : y ∈ kids c) (h : Des kids y x) : Des kids c x := by
  induction h with
  | refl => exact .step .refl hy
  | step _ hx ih => exact .step ih hx
theorem below_des : ∀ k c x, x ∈ below kids k c → Des kids c x ∧ kids x ≠ []
  | 0, _, _, h => by simp [below] at h
  | k + 1, c, x, h => by
    unfold below at h
    split at h
    · simp at h
    · rename_i hc
      rcases List.mem_cons.1 h with rfl | h
      · exact ⟨.refl, hc⟩
      · obtain ⟨y, hy, h⟩ := List.mem_flatMap.1 h
        obtain ⟨h1, h2⟩ := below_des k y x h
        exact ⟨h1.first kids hy, h2⟩
theorem below_head : ∀ k c x, x ∈ below kids k c → kids c ≠ []
  | 0, _, _, h => by simp [below] at h
  | k + 1, c, x, h => by
    unfold below at h
    split at h
    · simp at h
    · assumption
variable {ex kids}
theorem IsTree.rank {N : Nat} (t : IsTree ex kids N) : ∃ r : Int → Nat, (∀ x, kids x ≠ [] → r x ≤ N) ∧ ∀ p x, x ∈ kids p → kids x ≠ [] → r p < r x := by
  have key : ∀ i p x, x ∈ kids p → kids x ≠ [] → x ∈ itP ex kids (i + 1) [1] → p ∈ itP ex kids i [1] := by
    intro i p x hp hx
    induction i with
    | zero =>
      intro h
      rw [itP_next] at h
      rcases (mem_nextP ex kids _ _).1 h with h | ⟨⟨q, hq, h⟩, _⟩
      · have : x = 1 := by simpa [itP] using h
        subst this; exact absurd hp (t.no1 p)
      · rw [t.one p q x hp h hx]; exact hq
    | succ i ih =>
      intro h
      rw [itP_next] at h
      rcases (mem_nextP ex kids _ _).1 h with h | ⟨⟨q, hq, h⟩, _⟩
      · have := ih h
        rw [itP_next]
        exact (mem_nextP ex kids _ _).2 (.inl this)
      · rw [t.one p q x hp h hx]; exact hq
  have hm : ∀ x, ∃ m, kids x ≠ [] → (x ∈ itP ex kids m [1] ∧ ∀ i, x ∈ itP ex kids i [1] → m ≤ i) := by
    intro x
    by_cases hx : kids x = []
    · exact ⟨0, fun h => absurd hx h⟩
    · obtain ⟨m, h1, h2⟩ := leastN (fun i => x ∈ itP ex kids i [1]) N (t.all x hx)
      exact ⟨m, fun _ => ⟨h1, h2⟩⟩
  refine ⟨fun x => (hm x).choose, fun x hx => ((hm x).choose_spec hx).2 N (t.all x hx), fun p x hp hx => ?_⟩
  show (hm p).choose < (hm x).choose
  obtain ⟨h1, h2⟩ := (hm x).choose_spec hx
  have hkp : kids p ≠ [] := List.ne_nil_of_mem hp
  obtain ⟨g1, g2⟩ := (hm p).choose_spec hkp
  generalize (hm x).choose = a at *
  generalize (hm p).choose = b at *
  cases a with
  | zero =>
    have : x = 1 := by simpa [itP] using h1
    subst this; exact absurd hp (t.no1 p)
  | succ a => exact Nat.lt_succ_of_le (g2 a (key a p x hp hx h1))
theorem Des.rank {r : Int → Nat} (hr : ∀ p x, x ∈ kids p → kids x ≠ [] → r p < r x) {c x : Int} (h : Des kids c x) : kids x ≠ [] → r c ≤ r x := by
  induction h with
  | refl => exact fun _ => Nat.le_refl _
  | step _ hx ih => exact fun h => Nat.le_trans (ih (List.ne_nil_of_mem hx)) (Nat.le_of_lt (hr _ _ hx h))
theorem IsTree.apart {N : Nat} (t : IsTree ex kids N) {d c c' : Int} (hc : c ∈ kids d) (hc' : c' ∈ kids d) (kc : kids c ≠ []) (kc' : kids c' ≠ []) (hne : c ≠ c') {x : Int} (h : Des kids c x) : Des kids c' x → kids x ≠ [] → False := by
  obtain ⟨r, _, hr⟩ := t.rank
  induction h with
  | refl =>
    intro h _
    cases h with
    | refl => exact hne rfl
    | step h2 hp =>
      rw [t.one _ _ _ hp hc kc] at h2
      have := h2.rank hr (List.ne_nil_of_mem hc)
      have := hr _ _ hc' kc'
      omega
  | step h1 hx ih =>
    intro h kx
    cases h with
    | refl =>
      rw [t.one _ _ _ hx hc' kc'] at h1
      have := h1.rank hr (List.ne_nil_of_mem hc)
      have := hr _ _ hc kc
      omega
    | step h2 hp =>
      rw [t.one _ _ _ hp hx kx] at h2
      exact ih h2 (List.ne_nil_of_mem hx)
theorem IsTree.below_nodup {N : Nat} (t : IsTree ex kids N) : ∀ k c, (below kids k c).Nodup
  | 0, _ => List.nodup_nil
  | k + 1, c => by
    obtain ⟨r, _, hr⟩ := t.rank
    unfold below
    split
    · exact List.nodup_nil
    · refine List.nodup_cons.2 ⟨fun h => ?_, ?_⟩
      · obtain ⟨y, hy, h⟩ := List.mem_flatMap.1 h
        obtain ⟨h1, h2⟩ := below_des kids k y c h
        have := h1.rank hr h2
        have := hr _ _ hy (below_head kids k y c h)
        omega
      · refine List.pairwise_flatMap.2 ⟨fun y _ => t.below_nodup k y, ?_⟩
        refine List.Pairwise.imp_of_mem ?_ (t.nd c)
        intro a b ha hb hab x hx y hy hxy
        subst hxy
        obtain ⟨h1, h2⟩ := below_des kids k a x hx
        obtain ⟨g1, _⟩ := below_des kids k b x hy
        have ka := below_head kids k a x hx
        exact t.apart ha hb ka (below_head kids k b x hy) (hab ka) h1 g1 h2
theorem cntB_le (M : Nat) (hM : ∀ x, (kids x).length ≤ M) : ∀ k c, cntB kids k c ≤ M * (below kids k c).length
  | 0, _ => Nat.zero_le _
  | k + 1, c => by
    unfold cntB below
    split
    · rename_i h; rw [h]; exact Nat.zero_le _
    · have key : ∀ ys : List Int, (ys.map fun y => 1 + cntB kids k y).sum ≤ ys.length + M * (ys.flatMap (below kids k)).length := by
        intro ys
        induction ys with
        | nil => exact Nat.zero_le _
        | cons y ys ih =>
          have := cntB_le M hM k y
          simp only [List.map_cons, List.sum_cons, List.length_cons, List.flatMap_cons, List.length_append, Nat.mul_add]
          omega
      have h1 := key (kids c)
      have h2 := hM c
      rw [List.length_cons, Nat.mul_succ]
      omega
theorem IsTree.cnt {N M : Nat} (t : IsTree ex kids N) (hM : ∀ x, (kids x).length ≤ M) (U : List Int) (hU : ∀ x, kids x ≠ [] → x ∈ U) (k : Nat) (c : Int) : cntB kids k c ≤ M * U.length :=
  Nat.le_trans (cntB_le M hM k c) (Nat.mul_le_mul_left _ (nodup_len _ _ (t.below_nodup k c) fun x hx => hU x (below_des kids k c x hx).2))
end
end Go.Proofs.YtolkhimbfegkkaaGreat.Q
namespace Go.Proofs.YtolkhimbfegkkaaGreat.Q
open Go.RowKit Go.Proofs.YtolkhimbfegkkaaGreat.P Go.Proofs.YtolkhimbfegkkaaGreatW.PrintWords Go.Proofs.YtolkhimbfegkkaaGreatW.PrintLast Go.Proofs.YtolkhimbfegkkaaGreatW.PrintMore

theorem placeR_or (n : Int) (l : List S47) : ∀ i : Nat, placeR n l i = -1 ∨ ∃ j, ∃ h : j < l.length, placeR n l i = ((i + j : Nat) : Int) ∧ l[j].f0 = n := by
  induction l with
  | nil => intro i; exact .inl rfl
  | cons x l ih =>
    intro i
    rw [placeR]
    split
    · rename_i h; exact .inr ⟨0, by simp, by simp, h⟩
    · rcases ih (i + 1) with h | ⟨j, hj, h, e⟩
      · exact .inl h
      · exact .inr ⟨j + 1, by simp; omega, by rw [h]; congr 1; omega, by simpa using e⟩
theorem inoAt_in (l : List S47) (n : Int) (h : isAt l n = true) : inoAt l n ∈ l ∧ (inoAt l n).f0 = n := by
  unfold isAt at h
  have h := of_decide_eq_true h
  rcases placeR_or n l 0 with g | ⟨j, hj, g, e⟩
  · omega
  · unfold inoAt
    rw [if_neg (by omega), g]
    have : rd_T47 l (((0 + j : Nat) : Int)) = l[j] := by rw [Nat.zero_add]; exact getD_at l _ j hj
    rw [this]
    exact ⟨List.getElem_mem hj, e⟩
theorem tabR_mem (nx : Int) (l : List S47) : ∀ p, tabR nx p l = true → ∀ x ∈ l, inOk x = true := by
  induction l with
  | nil => intro _ _ x hx; simp at hx
  | cons y l ih =>
    intro p h x hx
    simp only [tabR, Bool.and_eq_true] at h
    rcases List.mem_cons.1 hx with rfl | hx
    · exact h.1.1.1
    · exact ih _ h.2 x hx
theorem sum_two {α : Type} (f : α → Nat) (l : List α) (a b : α) (ha : a ∈ l) (hb : b ∈ l) (hne : a ≠ b) : f a + f b ≤ (l.map f).sum := by
  have one : ∀ (l : List α) (a : α), a ∈ l → f a ≤ (l.map f).sum := by
    intro l a ha
    induction l with
    | nil => simp at ha
    | cons x l ih =>
      rw [List.map_cons, List.sum_cons]
      rcases List.mem_cons.1 ha with rfl | ha
      · omega
      · have := ih ha; omega
  induction l with
  | nil => simp at ha
  | cons x l ih =>
    rw [List.map_cons, List.sum_cons]
    rcases List.mem_cons.1 ha with ea | ha2
    · rcases List.mem_cons.1 hb with eb | hb2
      · exact absurd (ea.trans eb.symm) hne
      · have := one l b hb2; rw [← ea]; omega
    · rcases List.mem_cons.1 hb with eb | hb2
      · have := one l a ha2; rw [← eb]; omega
      · have := ih ha2 hb2; omega
theorem sum_one {α : Type} (f : α → Nat) (l : List α) (a : α) (ha : a ∈ l) : f a ≤ (l.map f).sum := by
  induction l with
  | nil => simp at ha
  | cons x l ih =>
    rw [List.map_cons, List.sum_cons]
    rcases List.mem_cons.1 ha with rfl | ha
    · omega
    · have := ih ha; omega
theorem entLinks_pos (n : Int) (es : List S63) (h : n ∈ es.map (·.f1)) : 1 ≤ entLinks n es := by
  obtain ⟨e, he, rfl⟩ := List.mem_map.1 h
  exact List.length_pos_of_mem (List.mem_filter.2 ⟨he, by simp⟩)
theorem ents_pair (Q : Int → Prop) (es : List S63) (h : ∀ a, Q a → entLinks a es ≤ 1) : (es.map (·.f1)).Pairwise (fun a b => Q a → a ≠ b) := by
  induction es with
  | nil => exact List.Pairwise.nil
  | cons e es ih =>
    rw [List.map_cons]
    refine List.pairwise_cons.2 ⟨fun b hb hq hab => ?_, ih fun a ha => ?_⟩
    · have h1 := h e.f1 hq
      have h2 := entLinks_pos e.f1 es (by rw [hab]; exact hb)
      unfold entLinks at h1 h2
      rw [List.filter_cons, if_pos (by simp), List.length_cons] at h1
      omega
    · have h1 := h a ha
      unfold entLinks at h1 ⊢
      rw [List.filter_cons] at h1
      split at h1
      · rw [List.length_cons] at h1; omega
      · exact h1
theorem entsR_two (es : List S63) : ∀ p, entsR p es = true → ∀ e ∈ es, 2 ≤ e.f1 ∧ nameOk e.f0 = true := by
  induction es with
  | nil => intro _ _ x hx; simp at hx
  | cons y l ih =>
    intro p h x hx
    simp only [entsR, Bool.and_eq_true, decide_eq_true_eq] at h
    rcases List.mem_cons.1 hx with rfl | hx
    · exact ⟨h.1.1.2.1, h.1.1.1⟩
    · exact ih _ h.2 x hx
/-- What a right tree tells of its inodes. -/
structure TreeT (l : List S47) : Prop where
  len : l.length ≤ 30
  ok : ∀ x ∈ l, inOk x = true
  lk : ∀ x ∈ l, x.f2 = (linksOf x.f0 l : Int)
  en : ∀ x ∈ l, ∀ e ∈ x.f4, isAt l e.f1 = true
  rt : isAt l 1 = true
  re : (itP (isAt l) (kidsI l) l.length [1]).length = l.length
theorem treeOk_spec (l : List S47) (nx : Int) (h : treeOk l nx = true) : TreeT l := by
  simp only [treeOk, tabOk, Bool.and_eq_true, decide_eq_true_eq] at h
  obtain ⟨⟨⟨h1, _⟩, h2, _⟩, h3, h4⟩ := h
  have ht : ∀ x ∈ l, x.f2 = (linksOf x.f0 l : Int) ∧ entsIn l x.f4 = true := by
    intro x hx
    have := List.all_eq_true.1 h4 x hx
    simpa using this
  have hr : isAt l 1 = true := by
    apply Classical.byContradiction
    intro hn
    unfold reachP at h3
    rw [if_neg hn] at h3
    simp at h3; omega
  refine ⟨h1.2, tabR_mem nx l none h2, fun x hx => (ht x hx).1, fun x hx e he => List.all_eq_true.1 (ht x hx).2 e he, hr, ?_⟩
  unfold reachP at h3
  rwa [if_pos hr] at h3
theorem inOk_spec (x : S47) (h : inOk x = true) : x.f4.length ≤ 10 ∧ (∀ e ∈ x.f4, 2 ≤ e.f1 ∧ nameOk e.f0 = true) ∧ (x.f1 = 2 → x.f2 ≤ 1) ∧ (x.f1 ≠ 2 → x.f4 = []) := by
  simp only [inOk, inodeOk, entsOk, Bool.and_eq_true, decide_eq_true_eq] at h
  obtain ⟨⟨⟨_, he⟩, _⟩, hk⟩ := h
  refine ⟨he.2, entsR_two _ _ he.1, fun h2 => ?_, fun h2 => ?_⟩
  · unfold kindOk at hk
    rw [if_neg (by omega), if_pos h2] at hk
    simp only [Bool.and_eq_true, decide_eq_true_eq] at hk
    exact hk.2
  · unfold kindOk at hk
    by_cases c : x.f1 = 1
    · rw [if_pos c] at hk
      exact List.eq_nil_of_length_eq_zero (by simpa using hk)
    · rw [if_neg c, if_neg h2] at hk
      cases hk
theorem TreeT.kids {l : List S47} (t : TreeT l) (n : Int) (h : isAt l n = true) : kidsI l n = (inoAt l n).f4.map (·.f1) := by
  unfold kidsI
  split
  · rfl
  · rename_i c
    have := (inOk_spec _ (t.ok _ (inoAt_in l n h).1)).2.2.2 (fun e => c ⟨h, e⟩)
    rw [this]; rfl
theorem kidsI_at (l : List S47) (n : Int) (h : kidsI l n ≠ []) : isAt l n = true ∧ (inoAt l n).f1 = 2 := by
  unfold kidsI at h
  split at h
  · assumption
  · exact absurd rfl h
theorem kidsI_in (l : List S47) (n x : Int) (h : x ∈ kidsI l n) : (isAt l n = true ∧ (inoAt l n).f1 = 2) ∧ x ∈ (inoAt l n).f4.map (·.f1) := by
  have hn := kidsI_at l n (List.ne_nil_of_mem h)
  unfold kidsI at h
  rw [if_pos hn] at h
  exact ⟨hn, h⟩
theorem TreeT.isTree {l : List S47} (t : TreeT l) : IsTree (isAt l) (kidsI l) l.length := by
  have lone : ∀ x, kidsI l x ≠ [] → linksOf x l ≤ 1 := by
    intro x hx
    obtain ⟨h1, h2⟩ := kidsI_at l x hx
    obtain ⟨g1, g2⟩ := inoAt_in l x h1
    have h3 := (inOk_spec _ (t.ok _ g1)).2.2.1 h2
    have h4 := t.lk _ g1
    rw [g2] at h4
    omega
  refine ⟨fun p q x hp hq hx => ?_, fun p => ?_, fun p h => ?_, fun x hx => ?_⟩
  · apply Classical.byContradiction
    intro hne
    obtain ⟨⟨p1, p2⟩, p3⟩ := kidsI_in l p x hp
    obtain ⟨⟨q1, q2⟩, q3⟩ := kidsI_in l q x hq
    obtain ⟨p4, p5⟩ := inoAt_in l p p1
    obtain ⟨q4, q5⟩ := inoAt_in l q q1
    have h := lone x hx
    have := sum_two (inoLinks x) l _ _ p4 q4 (fun e => hne (by rw [← p5, ← q5, e]))
    have a : 1 ≤ inoLinks x (inoAt l p) := by unfold inoLinks; rw [if_pos p2]; exact entLinks_pos _ _ p3
    have b : 1 ≤ inoLinks x (inoAt l q) := by unfold inoLinks; rw [if_pos q2]; exact entLinks_pos _ _ q3
    unfold linksOf at h
    omega
  · unfold kidsI
    split
    · rename_i c
      refine ents_pair _ _ fun a ha => ?_
      have h := lone a ha
      have := sum_one (inoLinks a) l _ (inoAt_in l p c.1).1
      unfold inoLinks at this
      rw [if_pos c.2] at this
      unfold linksOf inoLinks at h
      omega
    · exact List.Pairwise.nil
  · obtain ⟨⟨p1, p2⟩, p3⟩ := kidsI_in l p 1 h
    obtain ⟨e, he, h1⟩ := List.mem_map.1 p3
    have := ((inOk_spec _ (t.ok _ (inoAt_in l p p1).1)).2.1 e he).1
    have h1 : e.f1 = 1 := h1
    omega
  · have hl := itP_lt (isAt l) (kidsI l) l.length [1] (List.pairwise_singleton ..)
    refine nodup_all _ (l.map (·.f0)) (lt_nodup hl) ?_ (by rw [List.length_map, t.re]; exact Nat.le_refl _) x (ex_mem l x (kidsI_at l x hx).1)
    exact itP_in (isAt l) (kidsI l) (l.map (·.f0)) (fun _ _ y _ hy => ex_mem l y hy) _ _ (fun y hy => by rw [List.mem_singleton.1 hy]; exact ex_mem l 1 t.rt)
theorem TreeT.cnt {l : List S47} (t : TreeT l) (k : Nat) (c : Int) : cntB (kidsI l) k c ≤ 300 := by
  have := t.isTree.cnt (M := 10) (fun x => by
    unfold kidsI
    split
    · rename_i h; rw [List.length_map]; exact (inOk_spec _ (t.ok _ (inoAt_in l x h.1).1)).1
    · exact Nat.zero_le _) (l.map (·.f0)) (fun x hx => ex_mem l x (kidsI_at l x hx).1) k c
  rw [List.length_map] at this
  have := t.len
  omega
end Go.Proofs.YtolkhimbfegkkaaGreat.Q
namespace Go.Proofs.YtolkhimbfegkkaaGreat.Q
open Go.RowKit Go.Proofs.YtolkhimbfegkkaaGreat.P Go.Proofs.YtolkhimbfegkkaaGreatW.PrintWords Go.Proofs.YtolkhimbfegkkaaGreatW.PrintLast Go.Proofs.YtolkhimbfegkkaaGreatW.PrintMore

def entP (p : ByteArray) (e : S63) : ByteArray := (p ++ (⟨#[47]⟩ : ByteArray)) ++ e.f0
/-- The paths below an inode: fuel is the depth that is left. -/
def subP (l : List S47) : Nat → Int → ByteArray → List ByteArray
  | 0, _, _ => []
  | k + 1, n, p => (inoAt l n).f4.flatMap fun e => entP p e :: subP l k e.f1 (entP p e)
theorem subP_length {l : List S47} (t : TreeT l) : ∀ k n p, isAt l n = true → (subP l k n p).length = cntB (kidsI l) k n
  | 0, _, _, _ => rfl
  | k + 1, n, p, h => by
    unfold subP cntB
    rw [List.length_flatMap, t.kids n h, List.map_map]
    congr 1
    refine List.map_congr_left fun e he => ?_
    show (entP p e :: subP l k e.f1 (entP p e)).length = 1 + cntB (kidsI l) k e.f1
    rw [List.length_cons, subP_length t k e.f1 _ (t.en _ (inoAt_in l n h).1 e he)]
    omega
def pathsP (l : List S47) (nx : Int) : List ByteArray := if treeOk l nx = true then subP l (l.length + 1) 1 ⟨#[]⟩ else []
theorem entP_size (p : ByteArray) (e : S63) : (entP p e).size = p.size + 1 + e.f0.size := by
  unfold entP; rw [ByteArray.size_append, ByteArray.size_append]; rfl
theorem impl_below_ev {l : List S47} (t : TreeT l) (nx : Int) (hs : ∀ x ∈ l, InoT x) (r : Int → Nat) (hr1 : ∀ x, kidsI l x ≠ [] → r x ≤ l.length) (hr2 : ∀ p x, x ∈ kidsI l p → kidsI l x ≠ [] → r p < r x) :
    ∀ k n p, isAt l n = true → (kidsI l n = [] ∨ l.length < k + r n) → p.size + k * 1048577 ≤ 4611686018427387904 →
      Ev (fun k' => impl_pathsBelow.f k' l nx (inoAt l n).f0 (inoAt l n).f1 (inoAt l n).f2 (inoAt l n).f3 (inoAt l n).f4 (inoAt l n).f5 p) (subP l k n p) := by
  have hA : ∀ x ∈ l, InoA x := fun x hx => (hs x hx).a
  have hl := t.len
  intro k
  induction k with
  | zero =>
    intro n p hn hk hp
    have he : (inoAt l n).f4 = [] := by
      have hz : kidsI l n = [] := by
        rcases hk with h | h
        · exact h
        · apply Classical.byContradiction
          intro hne
          have := hr1 n hne
          omega
      rw [t.kids n hn] at hz
      exact List.map_eq_nil_iff.1 hz
    apply evPre
    simp only [impl_pathsBelow.f]
    apply evPre
    simp only [impl_pathsBelow.l0, he]
    exact evN (by decide) (Ev.now _)
  | succ k ih =>
    intro n p hn hk hp
    have hX := (inoAt_in l n hn).1
    have hXT := hs _ hX
    have htot : (subP l (k + 1) n p).length ≤ 300 := by rw [subP_length t _ _ _ hn]; exact t.cnt _ _
    have hsub : ∀ e ∈ (inoAt l n).f4, Ev (fun k' => impl_pathsBelow.f k' l nx (inoAt l e.f1).f0 (inoAt l e.f1).f1 (inoAt l e.f1).f2 (inoAt l e.f1).f3 (inoAt l e.f1).f4 (inoAt l e.f1).f5 (entP p e)) (subP l k e.f1 (entP p e)) := by
      intro e he
      have hen := hXT.en e he
      have hin : e.f1 ∈ kidsI l n := by rw [t.kids n hn]; exact List.mem_map.2 ⟨e, he, rfl⟩
      refine ih e.f1 _ (t.en _ hX e he) ?_ (by rw [entP_size]; omega)
      by_cases c : kidsI l e.f1 = []
      · exact .inl c
      · refine .inr ?_
        have := hr2 n e.f1 hin c
        rcases hk with h | h
        · rw [h] at hin; simp at hin
        · omega
    have hnm : ∀ e ∈ (inoAt l n).f4, e.f0.size ≤ 1048576 := hXT.en
    have hel := (hA _ hX).e
    unfold subP at htot ⊢
    generalize (inoAt l n).f4 = es at *
    apply evPre
    simp only [impl_pathsBelow.f]
    have key := down (n := es.length) (P := fun j => ∀ acc : List ByteArray, acc.length + ((es.drop j).flatMap fun e => entP p e :: subP l k e.f1 (entP p e)).length ≤ 300 →
        Ev (fun k' => impl_pathsBelow.l0 k' p acc es (es.length : Int) (j : Nat) l nx) (acc ++ (es.drop j).flatMap fun e => entP p e :: subP l k e.f1 (entP p e))) (by
      intro acc _
      apply evPre
      simp only [impl_pathsBelow.l0]
      rw [List.drop_length]
      exact evN (by omega) (evC (Ev.now _) (by simp))) (fun j hj ih2 => by
      intro acc hacc
      have hmem := List.getElem_mem hj
      have hE := hsub _ hmem
      have hsz := hnm _ hmem
      have hrd : rd_T63 es (j : Int) = es[j] := getD_at es _ j hj
      rw [List.drop_eq_getElem_cons hj, List.flatMap_cons] at hacc ⊢
      generalize es[j] = e at *
      have hia := impl_inodeAt l nx e.f1 (by omega) hA
      have hps : (p ++ (⟨#[47]⟩ : ByteArray)).size = p.size + 1 := by rw [ByteArray.size_append]; rfl
      simp only [List.length_append, List.length_cons] at hacc
      have h2 := ih2 (acc ++ [entP p e] ++ subP l k e.f1 (entP p e)) (by simp only [List.length_append, List.length_cons, List.length_nil]; omega)
      apply evPre
      simp only [impl_pathsBelow.l0, hrd, Option.bind_some, hps]
      refine evP (by omega) (evP (by omega) (evP (by omega) (evP (by omega) (evP (by omega) (evP (by omega) ?_)))))
      refine Ev.bind hia (Ev.bind hE (evP (by simp only [List.length_append, List.length_cons, List.length_nil]; omega) ?_))
      rw [nxt j es.length hj (by omega)]
      refine evC h2 ?_
      simp only [List.append_assoc, List.cons_append, List.nil_append])
    have := key [] (by simpa using htot)
    simpa using this
theorem impl_paths (l : List S47) (nx : Int) (hl : l.length ≤ 1048576) (hs : ∀ x ∈ l, InoT x) : Ev (fun k => impl_PathsOf.f k l nx) (sortS (pathsP l nx)) := by
  have hA : ∀ x ∈ l, InoA x := fun x hx => (hs x hx).a
  unfold impl_PathsOf.f pathsP
  refine Ev.bind (impl_treeOk l nx hl hs) ?_
  by_cases c : treeOk l nx = true
  · refine evP c ?_
    rw [if_pos c]
    have t := treeOk_spec l nx c
    obtain ⟨r, hr1, hr2⟩ := t.isTree.rank
    have hb := impl_below_ev t nx hs r hr1 hr2 (l.length + 1) 1 ⟨#[]⟩ t.rt (.inr (by omega)) (by have := t.len; show 0 + _ ≤ _; omega)
    have hlen : (subP l (l.length + 1) 1 ⟨#[]⟩).length ≤ 300 := by rw [subP_length t _ _ _ t.rt]; exact t.cnt _ _
    refine Ev.bind (impl_inodeAt l nx 1 hl hA) (Ev.bind hb (evP (by omega) (Ev.now _)))
  · refine evN c ?_
    rw [if_neg c]
    exact evC (Ev.now _) (List.eq_nil_of_length_eq_zero (by rw [sortS_length]; rfl)).symm
end Go.Proofs.YtolkhimbfegkkaaGreat.Q
namespace Go.Proofs.YtolkhimbfegkkaaGreat.Q
open Go.RowKit Go.Proofs.YtolkhimbfegkkaaGreat.P Go.Proofs.YtolkhimbfegkkaaGreatW.PrintWords Go.Proofs.YtolkhimbfegkkaaGreatW.PrintLast Go.Proofs.YtolkhimbfegkkaaGreatW.PrintMore

def gtB (a b : ByteArray) : Bool := !(Op.bytesLess a.toList b.toList || a.toList == b.toList)
def leB (a b : ByteArray) : Prop := a.data.toList ≤ b.data.toList
theorem gtB_iff (a b : ByteArray) : gtB a b = true ↔ ¬ leB a b := by
  unfold gtB leB
  rw [ByteArray.toList_eq, ByteArray.toList_eq, Go.Proofs.bytesLess_eq]
  simp only [Bool.not_eq_true', Bool.or_eq_false_iff, decide_eq_false_iff_not, beq_eq_false_iff_ne, ne_eq]
  constructor
  · rintro ⟨h1, h2⟩ h
    exact h2 (List.le_antisymm h (List.not_lt.1 h1))
  · intro h
    exact ⟨fun g => h (List.le_of_lt g), fun g => h (by rw [g]; exact List.le_refl _)⟩
def plcS (xs : List ByteArray) (n : ByteArray) : Nat → Nat
  | 0 => 0
  | k + 1 => if gtB (xs.getD k ByteArray.empty) n = true then plcS xs n k else k + 1
def insS (xs : List ByteArray) (n : ByteArray) : List ByteArray := xs.take (plcS xs n xs.length) ++ [n] ++ xs.drop (plcS xs n xs.length)
theorem plcS_le (xs : List ByteArray) (n : ByteArray) : ∀ k, plcS xs n k ≤ k
  | 0 => Nat.le_refl _
  | k + 1 => by rw [plcS]; split; exact Nat.le_succ_of_le (plcS_le xs n k); exact Nat.le_refl _
theorem plcS_gt (xs : List ByteArray) (n : ByteArray) : ∀ k, k ≤ xs.length → ∀ j, plcS xs n k ≤ j → j < k → gtB (xs.getD j ByteArray.empty) n = true
  | 0, _, j, _, h => by omega
  | k + 1, hk, j, h1, h2 => by
    rw [plcS] at h1
    split at h1
    · rcases Nat.lt_or_ge j k with h | h
      · exact plcS_gt xs n k (by omega) j h1 h
      · obtain rfl : j = k := by omega
        assumption
    · omega
theorem plcS_at (xs : List ByteArray) (n : ByteArray) : ∀ k, 0 < plcS xs n k → ¬ gtB (xs.getD (plcS xs n k - 1) ByteArray.empty) n = true
  | 0, h => by simp [plcS] at h
  | k + 1, h => by
    rw [plcS] at h ⊢
    split
    · rename_i hc; rw [if_pos hc] at h; exact plcS_at xs n k h
    · rename_i hc; simpa using hc
theorem insS_perm (xs : List ByteArray) (n : ByteArray) : (insS xs n).Perm (n :: xs) := by
  unfold insS
  rw [List.append_assoc]
  refine List.perm_middle.trans ?_
  show (n :: (xs.take _ ++ xs.drop _)).Perm (n :: xs)
  rw [List.take_append_drop]
theorem leB_total (a b : ByteArray) : leB a b ∨ leB b a := List.le_total _ _
theorem leB_trans {a b c : ByteArray} (h : leB a b) (g : leB b c) : leB a c := List.le_trans h g
theorem insS_sorted (xs : List ByteArray) (n : ByteArray) (h : xs.Pairwise leB) : (insS xs n).Pairwise leB := by
  unfold insS
  have hle := plcS_le xs n xs.length
  have hgt := plcS_gt xs n xs.length (Nat.le_refl _)
  have hat := plcS_at xs n xs.length
  generalize plcS xs n xs.length = j at hle hgt hat
  have hp := List.pairwise_iff_getElem.1 h
  have g : ∀ i (hi : i < xs.length), xs.getD i ByteArray.empty = xs[i] := fun i hi => by rw [List.getD_eq_getElem?_getD, List.getElem?_eq_getElem hi]; rfl
  have h1 : ∀ a ∈ xs.take j, leB a n := fun a ha => by
    obtain ⟨i, hi, rfl⟩ := List.getElem_of_mem ha
    rw [List.length_take] at hi
    rw [List.getElem_take]
    have hj : 0 < j := by omega
    have hn := hat hj
    rw [g (j - 1) (by omega)] at hn
    have hn : leB xs[j - 1] n := Classical.byContradiction fun c => hn ((gtB_iff _ _).2 c)
    rcases Nat.lt_or_ge i (j - 1) with c | c
    · exact leB_trans (hp i (j - 1) (by omega) (by omega) c) hn
    · have : i = j - 1 := by omega
      subst this; exact hn
  have h2 : ∀ a ∈ xs.drop j, leB n a := fun a ha => by
    obtain ⟨i, hi, rfl⟩ := List.getElem_of_mem ha
    rw [List.length_drop] at hi
    rw [List.getElem_drop]
    have := hgt (j + i) (by omega) (by omega)
    rw [g (j + i) (by omega)] at this
    have := (gtB_iff _ _).1 this
    exact (leB_total _ _).resolve_left this
  have h3 : ∀ a ∈ xs.take j, ∀ b ∈ xs.drop j, leB a b := fun a ha b hb => leB_trans (h1 a ha) (h2 b hb)
  rw [List.append_assoc]
  refine List.pairwise_append.2 ⟨h.sublist (List.take_sublist _ _), ?_, fun a ha b hb => ?_⟩
  · exact List.pairwise_cons.2 ⟨h2, h.sublist (List.drop_sublist _ _)⟩
  · rcases List.mem_cons.1 hb with rfl | hb
    · exact h1 a ha
    · exact h3 a ha b hb
theorem foldl_insS : ∀ (l acc : List ByteArray), acc.Pairwise leB → (l.foldl insS acc).Pairwise leB ∧ (l.foldl insS acc).Perm (l ++ acc)
  | [], acc, h => ⟨h, List.Perm.refl _⟩
  | x :: l, acc, h => by
    obtain ⟨h1, h2⟩ := foldl_insS l (insS acc x) (insS_sorted acc x h)
    refine ⟨h1, h2.trans ?_⟩
    exact ((insS_perm acc x).append_left l).trans List.perm_middle
end Go.Proofs.YtolkhimbfegkkaaGreat.Q
namespace Go.Proofs.YtolkhimbfegkkaaGreat.Q
open Go.RowKit Go.Proofs.YtolkhimbfegkkaaGreat.P Go.Proofs.YtolkhimbfegkkaaGreatW.PrintWords Go.Proofs.YtolkhimbfegkkaaGreatW.PrintLast Go.Proofs.YtolkhimbfegkkaaGreatW.PrintMore

theorem sortS_spec (l : List ByteArray) : (sortS l).Pairwise leB ∧ (sortS l).Perm l := by
  unfold sortS
  refine ⟨?_, ?_⟩
  · rw [List.pairwise_map]
    have := List.pairwise_mergeSort (le := fun x y : List UInt8 => decide (x ≤ y)) (fun a b c h g => by
      simp only [decide_eq_true_eq] at *; exact List.le_trans h g) (fun a b => by
      simp only [Bool.or_eq_true, decide_eq_true_eq]; exact List.le_total a b) (l.map fun b => b.data.toList)
    refine this.imp fun {a b} h => ?_
    simpa [leB] using h
  · refine ((List.mergeSort_perm _ _).map _).trans ?_
    rw [List.map_map]
    refine List.Perm.of_eq ?_
    conv => rhs; rw [← List.map_id l]
    exact List.map_congr_left fun b _ => by cases b; rfl
theorem foldl_sortS (l : List ByteArray) : l.foldl insS [] = sortS l := by
  obtain ⟨h1, h2⟩ := foldl_insS l [] List.Pairwise.nil
  obtain ⟨g1, g2⟩ := sortS_spec l
  rw [List.append_nil] at h2
  refine List.Perm.eq_of_pairwise (fun a b _ _ h g => ?_) h1 g1 (h2.trans g2.symm)
  have : a.data.toList = b.data.toList := List.le_antisymm h g
  cases a; cases b
  simp only [ByteArray.mk.injEq]
  exact Array.toList_inj.1 this
end Go.Proofs.YtolkhimbfegkkaaGreat.Q
namespace Go.Proofs.YtolkhimbfegkkaaGreat.Q
open Go.RowKit Go.Proofs.YtolkhimbfegkkaaGreat.P Go.Proofs.YtolkhimbfegkkaaGreatW.PrintWords Go.Proofs.YtolkhimbfegkkaaGreatW.PrintLast Go.Proofs.YtolkhimbfegkkaaGreatW.PrintMore

theorem gtB_less (a b : ByteArray) : gtB a b = Op.bytesLess b.toList a.toList := by
  unfold gtB; rw [Bool.not_or]; exact gtr_ _ _
theorem hole_set {α : Type} (S R : List α) (k : Nat) (hk : k ≤ S.length) (y v : α) : (S.take k ++ y :: R).set ((k : Nat) : Int).toNat v = S.take k ++ v :: R := by
  rw [Int.toNat_natCast, List.set_append, if_neg (by rw [List.length_take]; omega), List.length_take, Nat.min_eq_left hk, Nat.sub_self, List.set_cons_zero]
theorem sort_inner (S rest : List ByteArray) (x : ByteArray) (i : Int) (Z : List ByteArray) (hl : S.length + rest.length + 1 ≤ 4611686018427387904)
    (hfin : Ev (fun r => spec_l7Sort.l0 r (insS S x ++ rest) (wrap64 (i + 1))) Z) : ∀ (k : Nat) (y : ByteArray), k ≤ S.length → plcS S x S.length = plcS S x k → Ev (fun r => spec_l7Sort.l1 r (S.take k ++ y :: (S.drop k ++ rest)) i x (k : Int)) Z
  | 0, y, _, hp => by
    have hset := hole_set S (S.drop 0 ++ rest) 0 (Nat.zero_le _) y x
    have he : S.take 0 ++ x :: (S.drop 0 ++ rest) = insS S x ++ rest := by unfold insS; rw [hp]; simp [plcS]
    apply evPre
    simp only [spec_l7Sort.l1]
    refine evN (by omega) (evP (by omega) (evP (by simp only [List.length_append, List.length_cons]; omega) ?_))
    rw [hset, he]; exact hfin
  | k + 1, y, hk, hp => by
    have hw : wrap64 (((k + 1 : Nat) : Int) - 1) = (k : Int) := by rw [w64 (by omega) (by omega)]; omega
    have hlen : (S.take (k + 1) ++ y :: (S.drop (k + 1) ++ rest)).length = S.length + rest.length + 1 := by
      simp only [List.length_append, List.length_cons, List.length_take, List.length_drop]; omega
    have hrd : rdOf ByteArray.empty (S.take (k + 1) ++ y :: (S.drop (k + 1) ++ rest)) (k : Int) = S[k] := by
      rw [rdS _ k (by rw [hlen]; omega), List.getElem_append_left (by rw [List.length_take]; omega), List.getElem_take]
    have hg : S.getD k ByteArray.empty = S[k] := by rw [List.getD_eq_getElem?_getD, List.getElem?_eq_getElem hk]; rfl
    have hset : ∀ v, (S.take (k + 1) ++ y :: (S.drop (k + 1) ++ rest)).set ((k + 1 : Nat) : Int).toNat v = S.take (k + 1) ++ v :: (S.drop (k + 1) ++ rest) := hole_set S _ (k + 1) hk y
    have hsp : S.take (k + 1) ++ S[k] :: (S.drop (k + 1) ++ rest) = S.take k ++ S[k] :: (S.drop k ++ rest) := by
      rw [List.drop_eq_getElem_cons hk, List.take_succ_eq_append_getElem hk, List.append_assoc]; rfl
    rw [plcS, hg, gtB_less] at hp
    apply evPre
    simp only [spec_l7Sort.l1, hw, hrd]
    refine evP (by omega) (evP (by omega) (evP (by rw [hlen]; omega) ?_))
    by_cases c : Op.bytesLess x.toList S[k].toList = true
    · rw [if_pos c] at hp
      refine evP c (evP (by omega) (evP (by rw [hlen]; omega) ?_))
      rw [hset, hsp]
      exact sort_inner S rest x i Z hl hfin k S[k] (by omega) hp
    · rw [if_neg c] at hp
      refine evN c (evP (by omega) (evP (by rw [hlen]; omega) ?_))
      have he : S.take (k + 1) ++ x :: (S.drop (k + 1) ++ rest) = insS S x ++ rest := by unfold insS; rw [hp]; simp
      rw [hset, he]; exact hfin
theorem spec_sort (l : List ByteArray) (hl : l.length ≤ 1048576) : Ev (fun k => spec_l7Sort.f k l) (sortS l) := by
  have hlen : ∀ i, i ≤ l.length → ((l.take i).foldl insS []).length = i := fun i hi => by
    have := (foldl_insS (l.take i) [] List.Pairwise.nil).2.length_eq
    simp only [List.append_nil, List.length_take] at this
    omega
  have fin : ∀ i, i = l.length → Ev (fun k => spec_l7Sort.l0 k ((l.take i).foldl insS [] ++ l.drop i) (i : Int)) (sortS l) := by
    intro i hi
    subst hi
    apply evPre
    simp only [spec_l7Sort.l0]
    refine evN (by rw [List.length_append, hlen _ (Nat.le_refl _), List.drop_length]; simp) (evC (Ev.now _) ?_)
    rw [List.take_length, List.drop_length, List.append_nil, foldl_sortS]
  have key : ∀ m i, l.length - i = m → 1 ≤ i → i ≤ l.length → Ev (fun k => spec_l7Sort.l0 k ((l.take i).foldl insS [] ++ l.drop i) (i : Int)) (sortS l) := by
    intro m
    induction m with
    | zero => intro i h1 _ h3; exact fin i (by omega)
    | succ m ih =>
      intro i h1 h2 h3
      have hi : i < l.length := by omega
      have hS := hlen i h3
      have h := ih (i + 1) (by omega) (by omega) (by omega)
      rw [List.take_succ_eq_append_getElem hi, List.foldl_append, List.foldl_cons, List.foldl_nil] at h
      have hd : l.drop i = l[i] :: l.drop (i + 1) := List.drop_eq_getElem_cons hi
      have hdl : (l.drop (i + 1)).length = l.length - (i + 1) := List.length_drop ..
      generalize (l.take i).foldl insS [] = S at h hS ⊢
      rw [hd]
      generalize l.drop (i + 1) = R at h hdl ⊢
      have hrd : rdOf ByteArray.empty (S ++ l[i] :: R) (i : Int) = l[i] := by
        rw [rdS _ i (by simp only [List.length_append, List.length_cons]; omega), List.getElem_append_right (by omega)]
        simp [hS]
      apply evPre
      simp only [spec_l7Sort.l0, hrd]
      refine evP (by simp only [List.length_append, List.length_cons]; omega) (evP (by omega) ?_)
      have hin := sort_inner S R l[i] (i : Int) (sortS l) (by omega) (by rw [nxt i l.length hi (by omega)]; exact h) i l[i] (by omega) (by rw [hS])
      rw [List.take_of_length_le (by omega), List.drop_of_length_le (by omega), List.nil_append] at hin
      exact hin
  unfold spec_l7Sort.f
  refine evP (by show ([] : List ByteArray).length + l.length < _; simp; omega) ?_
  show Ev (fun k => spec_l7Sort.l0 k l 1) (sortS l)
  rcases Nat.eq_zero_or_pos l.length with h0 | h0
  · obtain rfl := List.eq_nil_of_length_eq_zero h0
    apply evPre
    simp only [spec_l7Sort.l0]
    exact evN (by simp) (evC (Ev.now _) (List.eq_nil_of_length_eq_zero (by rw [sortS_length]; rfl)).symm)
  · have h := key (l.length - 1) 1 rfl (Nat.le_refl _) h0
    obtain ⟨x, m, rfl⟩ : ∃ x m, l = x :: m := by
      cases l with
      | nil => simp at h0
      | cons x m => exact ⟨x, m, rfl⟩
    exact h
theorem spec_below_ev {l : List S47} (t : TreeT l) (nx : Int) (hs : ∀ x ∈ l, InoT x) (r : Int → Nat) (hr1 : ∀ x, kidsI l x ≠ [] → r x ≤ l.length) (hr2 : ∀ p x, x ∈ kidsI l p → kidsI l x ≠ [] → r p < r x) :
    ∀ k n p (out : List ByteArray), isAt l n = true → (kidsI l n = [] ∨ l.length < k + r n) → p.size + k * 1048577 ≤ 4611686018427387904 → out.length + (subP l k n p).length ≤ 1000000 →
      Ev (fun k' => spec_l7Paths.f k' l nx n p out) (out ++ subP l k n p) := by
  have hA : ∀ x ∈ l, InoA x := fun x hx => (hs x hx).a
  have hl := t.len
  intro k
  induction k with
  | zero =>
    intro n p out hn hk hp _
    have he : (inoAt l n).f4 = [] := by
      have hz : kidsI l n = [] := by
        rcases hk with h | h
        · exact h
        · apply Classical.byContradiction
          intro hne
          have := hr1 n hne
          omega
      rw [t.kids n hn] at hz
      exact List.map_eq_nil_iff.1 hz
    apply evPre
    simp only [spec_l7Paths.f]
    refine Ev.bind (spec_inodeAt l nx n (by omega) hA) ?_
    apply evPre
    simp only [spec_l7Paths.l0, he]
    exact evN (by decide) (evC (Ev.now _) (by simp [subP]))
  | succ k ih =>
    intro n p out hn hk hp hout
    have hX := (inoAt_in l n hn).1
    have hXT := hs _ hX
    have hsub : ∀ e ∈ (inoAt l n).f4, ∀ o : List ByteArray, o.length + (subP l k e.f1 (entP p e)).length ≤ 1000000 → Ev (fun k' => spec_l7Paths.f k' l nx e.f1 (entP p e) o) (o ++ subP l k e.f1 (entP p e)) := by
      intro e he o ho
      have hen := hXT.en e he
      have hin : e.f1 ∈ kidsI l n := by rw [t.kids n hn]; exact List.mem_map.2 ⟨e, he, rfl⟩
      refine ih e.f1 _ o (t.en _ hX e he) ?_ (by rw [entP_size]; omega) ho
      by_cases c : kidsI l e.f1 = []
      · exact .inl c
      · refine .inr ?_
        have := hr2 n e.f1 hin c
        rcases hk with h | h
        · rw [h] at hin; simp at hin
        · omega
    have hnm : ∀ e ∈ (inoAt l n).f4, e.f0.size ≤ 1048576 := hXT.en
    have hel := (hA _ hX).e
    unfold subP at hout ⊢
    apply evPre
    simp only [spec_l7Paths.f]
    refine Ev.bind (spec_inodeAt l nx n (by omega) hA) ?_
    dsimp only
    generalize (inoAt l n).f4 = es at *
    have key := down (n := es.length) (P := fun j => ∀ acc : List ByteArray, acc.length + ((es.drop j).flatMap fun e => entP p e :: subP l k e.f1 (entP p e)).length ≤ 1000000 →
        Ev (fun k' => spec_l7Paths.l0 k' l nx p es (j : Nat) acc) (acc ++ (es.drop j).flatMap fun e => entP p e :: subP l k e.f1 (entP p e))) (by
      intro acc _
      apply evPre
      simp only [spec_l7Paths.l0]
      rw [List.drop_length]
      exact evN (by omega) (evC (Ev.now _) (by simp))) (fun j hj ih2 => by
      intro acc hacc
      have hmem := List.getElem_mem hj
      have hE := hsub _ hmem
      have hsz := hnm _ hmem
      have hrd : rd_T63 es (j : Int) = es[j] := getD_at es _ j hj
      rw [List.drop_eq_getElem_cons hj, List.flatMap_cons] at hacc ⊢
      generalize es[j] = e at *
      have hps : (p ++ (⟨#[47]⟩ : ByteArray)).size = p.size + 1 := by rw [ByteArray.size_append]; rfl
      simp only [List.length_append, List.length_cons] at hacc
      have hE := hE (acc ++ [entP p e]) (by simp only [List.length_append, List.length_cons, List.length_nil]; omega)
      have h2 := ih2 (acc ++ [entP p e] ++ subP l k e.f1 (entP p e)) (by simp only [List.length_append, List.length_cons, List.length_nil]; omega)
      apply evPre
      simp only [spec_l7Paths.l0, hrd, hps]
      refine evP (by omega) (evP (by omega) (evP (by omega) (evP (by omega) (evP (by omega) ?_))))
      refine Ev.bind hE ?_
      rw [nxt j es.length hj (by omega)]
      refine evC h2 ?_
      simp only [List.append_assoc, List.cons_append, List.nil_append])
    simpa using key out (by simpa using hout)
theorem spec_paths (l : List S47) (nx : Int) (hl : l.length ≤ 1048576) (hs : ∀ x ∈ l, InoT x) : Ev (fun k => spec_PathsOf.f k l nx) (sortS (pathsP l nx)) := by
  unfold spec_PathsOf.f pathsP
  refine Ev.bind (spec_treeOk l nx hl hs) ?_
  by_cases c : treeOk l nx = true
  · refine evP c ?_
    rw [if_pos c]
    have t := treeOk_spec l nx c
    obtain ⟨r, hr1, hr2⟩ := t.isTree.rank
    have hlen : (subP l (l.length + 1) 1 ⟨#[]⟩).length ≤ 300 := by rw [subP_length t _ _ _ t.rt]; exact t.cnt _ _
    have hb := spec_below_ev t nx hs r hr1 hr2 (l.length + 1) 1 ⟨#[]⟩ [] t.rt (.inr (by omega)) (by have := t.len; show 0 + _ ≤ _; omega) (by simp; omega)
    rw [List.nil_append] at hb
    exact Ev.bind hb (spec_sort _ (by omega))
  · refine evN c ?_
    rw [if_neg c]
    exact spec_sort _ (by simp)
theorem paths_len (l : List S47) (nx : Int) : (sortS (pathsP l nx)).length ≤ 300 := by
  rw [sortS_length]
  unfold pathsP
  split
  · rename_i c
    have t := treeOk_spec l nx c
    rw [subP_length t _ _ _ t.rt]; exact t.cnt _ _
  · simp
end Go.Proofs.YtolkhimbfegkkaaGreat.Q
