/- What the functions that the law reaches answer, in plain words. No condition. -/
import Derived.Laws.BitsLemmas
import Derived.Test.YtkfcmpalbhmmaaaDoorKinds
import Derived.Test.YtkfcmpalbhmmaaaDoorPx0
import Derived.Test.YtkfcmpalbhmmaaaDoorPx1
import Derived.Test.YtkfcmpalbhmmaaaDoorPx2
import Derived.Test.YtkfcmpalbhmmaaaDoorPx3
import Derived.Test.YtkfcmpalbhmmaaaDoorPx4
import Derived.Test.YtkfcmpalbhmmaaaDoorPx5
import Derived.Test.YtkfcmpalbhmmaaaDoorWMore
namespace Go.Proofs.YtkfcmpalbhmmaaaDoor.Q
open Go.RowKit Go.Proofs.YtkfcmpalbhmmaaaDoorW.PrintWords Go.Proofs.YtkfcmpalbhmmaaaDoorW.PrintLast Go.Proofs.YtkfcmpalbhmmaaaDoorW.PrintMore

theorem evPre {α : Type} {g : Nat → Option α} {r : α} (h : Ev (fun k => g (k + 1)) r) : Ev g r := by
  obtain ⟨K, h⟩ := h
  refine ⟨K + 1, fun n hn => ?_⟩
  obtain ⟨m, rfl⟩ : ∃ m, n = m + 1 := ⟨n - 1, by omega⟩
  exact h m (by omega)
theorem evP {α : Type} {c : Prop} [Decidable c] {A B : Nat → Option α} {r : α} (hc : c) (h : Ev A r) : Ev (fun k => if c then A k else B k) r := by
  simpa only [if_pos hc] using h
theorem evN {α : Type} {c : Prop} [Decidable c] {A B : Nat → Option α} {r : α} (hc : ¬ c) (h : Ev B r) : Ev (fun k => if c then A k else B k) r := by
  simpa only [if_neg hc] using h
theorem evI {α : Type} {c : Prop} [Decidable c] {A B : Nat → Option α} {r s : α} (hp : c → Ev A r) (hn : ¬ c → Ev B s) : Ev (fun k => if c then A k else B k) (if c then r else s) := by
  by_cases hc : c
  · simpa only [if_pos hc] using hp hc
  · simpa only [if_neg hc] using hn hc
theorem evI' {α : Type} {c : Prop} [Decidable c] {A B : Nat → Option α} {r : α} (hp : c → Ev A r) (hn : ¬ c → Ev B r) : Ev (fun k => if c then A k else B k) r := by
  by_cases hc : c
  · simpa only [if_pos hc] using hp hc
  · simpa only [if_neg hc] using hn hc
theorem evU {α : Type} {g : Nat → Option α} {r s : α} (h : Ev g r) (k : Ev g s) : r = s := by
  obtain ⟨K, h⟩ := h
  obtain ⟨L, k⟩ := k
  have := (h (max K L) (Nat.le_max_left _ _)).symm.trans (k (max K L) (Nat.le_max_right _ _))
  exact Option.some.inj this
theorem evC {α : Type} {g : Nat → Option α} {r s : α} (h : Ev g r) (e : r = s) : Ev g s := e ▸ h

theorem w64 {n : Int} (h0 : -9223372036854775808 ≤ n) (h1 : n ≤ 9223372036854775807) : wrap64 n = n := by
  unfold wrap64
  omega
theorem wf64 {n : Int} (h : (Lit.int .i64 n).wf = true) : -9223372036854775808 ≤ n ∧ n ≤ 9223372036854775807 := by
  simpa [Lit.wf, IntKind.min, IntKind.max, IntKind.signed, IntKind.bits] using h
theorem wf8 {n : Int} (h : (Lit.int .u8 n).wf = true) : 0 ≤ n ∧ n ≤ 255 := by
  simpa [Lit.wf, IntKind.min, IntKind.max, IntKind.signed, IntKind.bits] using h

/-- All bytes. -/
def Byt (l : List Int) : Prop := ∀ x ∈ l, 0 ≤ x ∧ x ≤ 255
theorem Byt.rd {l : List Int} (h : Byt l) (i : Int) : 0 ≤ rd l i ∧ rd l i ≤ 255 := by
  unfold Go.Proofs.YtkfcmpalbhmmaaaDoorW.PrintWords.rd
  rw [List.getD_eq_getElem?_getD]
  by_cases hi : i.toNat < l.length
  · rw [List.getElem?_eq_getElem hi]
    exact h _ (List.getElem_mem hi)
  · rw [List.getElem?_eq_none (by omega)]
    simp
theorem byt_bytesOf (s : ByteArray) : Byt (bytesOf s) := by
  intro x hx
  simp only [bytesOf, List.mem_map] at hx
  obtain ⟨b, _, rfl⟩ := hx
  have := b.toNat_lt
  omega
theorem drop_cons (l : List Int) (i : Nat) (h : i < l.length) : l.drop i = rd l i :: l.drop (i + 1) := by
  rw [List.drop_eq_getElem_cons h]
  simp [Go.Proofs.YtkfcmpalbhmmaaaDoorW.PrintWords.rd, List.getElem?_eq_getElem h]
theorem toList_data (s : ByteArray) : s.toList = s.data.toList := by
  simp [ByteArray.toList_eq]
end Go.Proofs.YtkfcmpalbhmmaaaDoor.Q
namespace Go.Proofs.YtkfcmpalbhmmaaaDoor.Q
open Go.RowKit Go.Proofs.YtkfcmpalbhmmaaaDoor.P Go.Proofs.YtkfcmpalbhmmaaaDoorW.PrintWords Go.Proofs.YtkfcmpalbhmmaaaDoorW.PrintLast Go.Proofs.YtkfcmpalbhmmaaaDoorW.PrintMore

def goodc (c : Int) : Bool := decide (97 ≤ c ∧ c ≤ 122 ∨ 48 ≤ c ∧ c ≤ 57 ∨ c = 95 ∨ c = 45 ∨ c = 46)
/-- What is asked of a name beside its letters. -/
def nameEnd (s : ByteArray) : Bool := decide (1 ≤ s.size ∧ s.size ≤ 14) && s.toList != ([46] : List UInt8) && s.toList != ([46, 46] : List UInt8)
def nameOk (s : ByteArray) : Bool := (bytesOf s).all goodc && nameEnd s

theorem spec_in (a b c : Int) : spec_l1In.f a b c = some (decide (b ≤ a ∧ a ≤ c)) := by
  unfold spec_l1In.f
  by_cases h : a ≥ b
  · rw [if_pos h]; simp [show b ≤ a from h]
  · rw [if_neg h]; simp [show ¬ b ≤ a from h]

theorem nameEnd_spec (s : ByteArray) : ((spec_l1In.f (s.size : Int) 1 14).bind fun t101 => (if t101 = true then (if s.toList = ([46] : List UInt8) then (some false) else (some (s.toList != ([46, 46] : List UInt8)))) else (some false))) = some (nameEnd s) := by
  rw [spec_in]
  simp only [Option.bind_some, nameEnd]
  by_cases h : 1 ≤ s.size ∧ s.size ≤ 14
  · rw [if_pos (by simp; omega)]
    by_cases h1 : s.toList = [46]
    · simp [h1]
    · rw [if_neg h1]; simp [h, h1]
  · rw [if_neg (by simp; omega)]; simp [h]
theorem nameEnd_impl (s : ByteArray) : (if (s.size : Int) ≥ 1 then (if (s.size : Int) ≤ 14 then (if s.toList = ([46] : List UInt8) then (some false) else (some (s.toList != ([46, 46] : List UInt8)))) else (some false)) else (some false)) = some (nameEnd s) := by
  unfold nameEnd
  by_cases h : 1 ≤ s.size
  · rw [if_pos (by omega)]
    by_cases h2 : s.size ≤ 14
    · rw [if_pos (by omega)]
      by_cases h1 : s.toList = [46]
      · simp [h1]
      · rw [if_neg h1]; simp [h, h2, h1]
    · rw [if_neg (by omega)]; simp [h2]
  · rw [if_neg (by omega)]; simp [h]

theorem drop_bytes (s : ByteArray) (i : Nat) (h : i < s.size) : (bytesOf s).drop i = bt s i :: (bytesOf s).drop (i + 1) := by
  rw [drop_cons _ _ (by rw [bytesOf_length]; exact h), rd_bytesOf]

theorem spec_name_loop (s : ByteArray) (hs : s.size ≤ 9223372036854775807) (n : Nat) : ∀ (i : Nat), i ≤ s.size → s.size - i = n →
    Ev (fun k => spec_NameOk.l0 k s i) (((bytesOf s).drop i).all goodc && nameEnd s) := by
  induction n with
  | zero =>
    intro i hi hn
    apply evPre
    simp only [spec_NameOk.l0]
    refine evN (by omega) ?_
    rw [nameEnd_spec, List.drop_eq_nil_of_le (by rw [bytesOf_length]; omega)]
    simpa using Ev.now _
  | succ n ih =>
    intro i hi hn
    have hlt : i < s.size := by omega
    have hr := bt_range s i
    have ih := ih (i + 1) (by omega) (by omega)
    rw [show ((i + 1 : Nat) : Int) = wrap64 ((i : Int) + 1) from by rw [w64 (by omega) (by omega)]; simp] at ih
    apply evPre
    simp only [spec_NameOk.l0, spec_in, Option.bind_some]
    rw [drop_bytes s i hlt, List.all_cons]
    refine evP (by omega) (evP (by omega) ?_)
    rw [w64 (by omega) (by omega)]
    generalize bt s i = c at *
    by_cases h1 : 97 ≤ c ∧ c ≤ 122
    · refine evP (by simp [h1]) (evC ih ?_); simp [goodc, h1]
    refine evN (by simp; omega) ?_
    by_cases h2 : 48 ≤ c ∧ c ≤ 57
    · refine evP (by simp [h2]) (evC ih ?_); simp [goodc, h2]
    refine evN (by simp; omega) ?_
    by_cases h3 : c = 95
    · refine evP h3 (evC ih ?_); simp [goodc, h3]
    refine evN h3 ?_
    by_cases h4 : c = 45
    · refine evP h4 (evC ih ?_); simp [goodc, h4]
    refine evN h4 ?_
    by_cases h5 : c = 46
    · refine evP h5 (evC ih ?_); simp [goodc, h5]
    refine evN h5 (evC (Ev.now _) ?_)
    have : goodc c = false := by simp [goodc]; omega
    simp [this]
theorem spec_name (s : ByteArray) (hs : s.size ≤ 9223372036854775807) : Ev (fun k => spec_NameOk.f k s) (nameOk s) := by
  have h := spec_name_loop s hs s.size 0 (by omega) (by omega)
  simpa [spec_NameOk.f, nameOk] using h

theorem impl_name_loop (s : ByteArray) (hs : s.size ≤ 9223372036854775807) (n : Nat) : ∀ (i : Nat), i ≤ s.size → s.size - i = n →
    Ev (fun k => impl_NameOk.l0 k s (s.size : Int) i) (((bytesOf s).drop i).all goodc && nameEnd s) := by
  induction n with
  | zero =>
    intro i hi hn
    apply evPre
    simp only [impl_NameOk.l0]
    refine evN (by omega) ?_
    rw [nameEnd_impl, List.drop_eq_nil_of_le (by rw [bytesOf_length]; omega)]
    simpa using Ev.now _
  | succ n ih =>
    intro i hi hn
    have hlt : i < s.size := by omega
    have hr := bt_range s i
    have ih := ih (i + 1) (by omega) (by omega)
    rw [show ((i + 1 : Nat) : Int) = wrap64 ((i : Int) + 1) from by rw [w64 (by omega) (by omega)]; simp] at ih
    apply evPre
    simp only [impl_NameOk.l0]
    rw [drop_bytes s i hlt, List.all_cons]
    refine evP (by omega) (evP (by omega) (evP (by omega) ?_))
    generalize bt s i = c at *
    by_cases hg : goodc c = true
    · have e : (((bytesOf s).drop (i + 1)).all goodc && nameEnd s) = (goodc c && ((bytesOf s).drop (i + 1)).all goodc && nameEnd s) := by simp [hg]
      replace ih := evC ih e
      simp only [goodc, decide_eq_true_eq] at hg
      repeat (first | exact ih | refine evI' (fun _ => ?_) (fun _ => ?_) | (exfalso; omega))
    · have e : false = (goodc c && ((bytesOf s).drop (i + 1)).all goodc && nameEnd s) := by simp [hg]
      have no := evC (Ev.now false) e
      simp only [goodc, decide_eq_true_eq] at hg
      repeat (first | exact no | refine evI' (fun _ => ?_) (fun _ => ?_) | (exfalso; omega))
theorem impl_name (s : ByteArray) (hs : s.size ≤ 9223372036854775807) : Ev (fun k => impl_NameOk.f k s) (nameOk s) := by
  have h := impl_name_loop s hs s.size 0 (by omega) (by omega)
  simpa [impl_NameOk.f, nameOk] using h
end Go.Proofs.YtkfcmpalbhmmaaaDoor.Q
namespace Go.Proofs.YtkfcmpalbhmmaaaDoor.Q
open Go.RowKit Go.Proofs.YtkfcmpalbhmmaaaDoor.P Go.Proofs.YtkfcmpalbhmmaaaDoorW.PrintWords Go.Proofs.YtkfcmpalbhmmaaaDoorW.PrintLast Go.Proofs.YtkfcmpalbhmmaaaDoorW.PrintMore

theorem set_copy (l : List Int) (n i : Nat) (hn : n = l.length) (hi : i < n) : (l.take i ++ List.replicate (n - i) 0).set i (rd l i) = l.take (i + 1) ++ List.replicate (n - (i + 1)) 0 := by
  subst hn
  rw [List.set_append, if_neg (by rw [List.length_take]; omega), show i - (l.take i).length = 0 from by rw [List.length_take]; omega]
  obtain ⟨m, hm⟩ : ∃ m, l.length - i = m + 1 := ⟨l.length - i - 1, by omega⟩
  rw [hm, List.replicate_succ, List.set_cons_zero, show l.length - (i + 1) = m from by omega, List.take_succ_eq_append_getElem hi, List.append_assoc]
  have : rd l i = l[i] := by simp [Go.Proofs.YtkfcmpalbhmmaaaDoorW.PrintWords.rd, List.getElem?_eq_getElem hi]
  rw [this]
  rfl
theorem toByteS_loop (l : List Int) (hl : l.length ≤ 9223372036854775807) (n : Nat) : ∀ (i : Nat), i ≤ l.length → l.length - i = n →
    Ev (fun k => laws_toByteS.l0 k l (l.take i ++ List.replicate (l.length - i) 0) i) l := by
  induction n with
  | zero =>
    intro i hi hn
    apply evPre
    simp only [laws_toByteS.l0]
    refine evN (by omega) ?_
    rw [List.take_of_length_le (by omega), hn]
    simpa using Ev.now l
  | succ n ih =>
    intro i hi hn
    have ih := ih (i + 1) (by omega) (by omega)
    rw [show ((i + 1 : Nat) : Int) = wrap64 ((i : Int) + 1) from by rw [w64 (by omega) (by omega)]; simp] at ih
    apply evPre
    simp only [laws_toByteS.l0]
    refine evP (by omega) (evP (by omega) (evP (by simp [List.length_append, List.length_take]; omega) ?_))
    rw [Int.toNat_natCast, set_copy l _ i rfl (by omega)]
    exact ih
theorem toByteS_ev (l : List Int) (hl : l.length ≤ 281474976710656) : Ev (fun k => laws_toByteS.f k l) l := by
  have h := toByteS_loop l (by omega) l.length 0 (by omega) (by omega)
  simpa [laws_toByteS.f, hl] using h

theorem eq_drop (a b : List Int) (i : Nat) (ha : i < a.length) (hb : i < b.length) : decide (a.drop i = b.drop i) = (decide (rd a i = rd b i) && decide (a.drop (i + 1) = b.drop (i + 1))) := by
  rw [drop_cons a i ha, drop_cons b i hb]
  by_cases h : rd a i = rd b i <;> simp [h]
theorem eqByteS_loop (a b : List Int) (hab : a.length = b.length) (hl : a.length ≤ 9223372036854775807) (n : Nat) : ∀ (i : Nat), i ≤ a.length → a.length - i = n →
    Ev (fun k => laws_eqByteS.l0 k a b i) (decide (a.drop i = b.drop i)) := by
  induction n with
  | zero =>
    intro i hi hn
    apply evPre
    simp only [laws_eqByteS.l0]
    refine evN (by omega) ?_
    rw [List.drop_eq_nil_of_le (by omega), List.drop_eq_nil_of_le (by omega)]
    simpa using Ev.now true
  | succ n ih =>
    intro i hi hn
    have ih := ih (i + 1) (by omega) (by omega)
    rw [show ((i + 1 : Nat) : Int) = wrap64 ((i : Int) + 1) from by rw [w64 (by omega) (by omega)]; simp] at ih
    apply evPre
    simp only [laws_eqByteS.l0]
    rw [eq_drop a b i (by omega) (by omega)]
    refine evP (by omega) (evP (by omega) (evP (by omega) ?_))
    by_cases h : rd a i = rd b i
    · refine evP h (evC ih ?_); simp [h]
    · refine evN h (evC (Ev.now _) ?_); simp [h]
theorem eqByteS_ev (a b : List Int) (hl : a.length ≤ 9223372036854775807) : Ev (fun k => laws_eqByteS.f k a b) (decide (a = b)) := by
  unfold laws_eqByteS.f
  by_cases h : a.length = b.length
  · have h1 := eqByteS_loop a b h hl a.length 0 (by omega) (by omega)
    refine evP (by omega) ?_
    simpa using h1
  · refine evN (by omega) (evC (Ev.now _) ?_)
    have : a ≠ b := fun e => h (by rw [e])
    simp [this]

end Go.Proofs.YtkfcmpalbhmmaaaDoor.Q
namespace Go.Proofs.YtkfcmpalbhmmaaaDoor.Q
open Go.RowKit Go.Proofs.YtkfcmpalbhmmaaaDoorW.PrintWords Go.Proofs.YtkfcmpalbhmmaaaDoorW.PrintLast Go.Proofs.YtkfcmpalbhmmaaaDoorW.PrintMore

theorem set_copy_of {α β : Type} (xs : List α) (f : α → β) (z : β) (i : Nat) (hi : i < xs.length) :
    ((xs.take i).map f ++ List.replicate (xs.length - i) z).set i (f xs[i]) = (xs.take (i + 1)).map f ++ List.replicate (xs.length - (i + 1)) z := by
  rw [List.set_append, if_neg (by simp; omega)]
  obtain ⟨m, hm⟩ : ∃ m, xs.length - i = m + 1 := ⟨xs.length - i - 1, by omega⟩
  rw [hm, List.replicate_succ, show i - ((xs.take i).map f).length = 0 from by simp; omega, List.set_cons_zero, show xs.length - (i + 1) = m from by omega, List.take_succ_eq_append_getElem hi, List.map_append, List.append_assoc]
  rfl
theorem ev_copy {α β : Type} (L : Nat → List β → Int → Option (List β)) (xs : List α) (f : α → β) (z : β)
    (h1 : ∀ ys : List β, Ev (fun k => L k ys (xs.length : Nat)) ys)
    (h2 : ∀ (i : Nat) (hi : i < xs.length) (ys : List β), ys.length = xs.length → ∀ R, Ev (fun k => L k (ys.set i (f xs[i])) ((i + 1 : Nat) : Int)) R → Ev (fun k => L k ys (i : Nat)) R) :
    Ev (fun k => L k (List.replicate xs.length z) 0) (xs.map f) := by
  have key : ∀ n i : Nat, xs.length - i = n → i ≤ xs.length → Ev (fun k => L k ((xs.take i).map f ++ List.replicate (xs.length - i) z) (i : Nat)) (xs.map f) := by
    intro n
    induction n with
    | zero =>
      intro i hn hi
      obtain rfl : i = xs.length := by omega
      simpa using h1 (xs.map f)
    | succ n ih =>
      intro i hn hi
      refine h2 i (by omega) _ (by simp; omega) _ ?_
      rw [set_copy_of xs f z i (by omega)]
      exact ih (i + 1) (by omega) (by omega)
  simpa using key xs.length 0 (by omega) (by omega)
/-- A loop over places that goes on at each of them. -/
theorem ev_scan {γ : Type} (L : Nat → Int → Option γ) (n : Nat) (R : γ) (h1 : Ev (fun k => L k (n : Nat)) R) (h2 : ∀ i : Nat, i < n → Ev (fun k => L k ((i + 1 : Nat) : Int)) R → Ev (fun k => L k (i : Nat)) R) : Ev (fun k => L k 0) R := by
  have key : ∀ m i : Nat, n - i = m → i ≤ n → Ev (fun k => L k (i : Nat)) R := by
    intro m
    induction m with
    | zero =>
      intro i hm hi
      obtain rfl : i = n := by omega
      exact h1
    | succ m ih =>
      intro i hm hi
      exact h2 i (by omega) (ih (i + 1) (by omega) (by omega))
  simpa using key n 0 (by omega) (by omega)
/-- A loop over places, from what is told at each of them: a fold over the list from its end. -/
theorem ev_fold {α γ : Type} (L : Nat → Int → Option γ) (xs : List α) (F : List α → γ) (h1 : Ev (fun k => L k (xs.length : Nat)) (F []))
    (h2 : ∀ (i : Nat) (hi : i < xs.length), Ev (fun k => L k ((i + 1 : Nat) : Int)) (F (xs.drop (i + 1))) → Ev (fun k => L k (i : Nat)) (F (xs[i] :: xs.drop (i + 1)))) : Ev (fun k => L k 0) (F xs) := by
  have key : ∀ m i : Nat, xs.length - i = m → i ≤ xs.length → Ev (fun k => L k (i : Nat)) (F (xs.drop i)) := by
    intro m
    induction m with
    | zero =>
      intro i hm hi
      obtain rfl : i = xs.length := by omega
      rw [List.drop_length]
      exact h1
    | succ m ih =>
      intro i hm hi
      rw [List.drop_eq_getElem_cons (by omega)]
      exact h2 i (by omega) (ih (i + 1) (by omega) (by omega))
  simpa using key xs.length 0 (by omega) (by omega)
theorem getD_at {α : Type} (xs : List α) (z : α) (i : Nat) (hi : i < xs.length) : xs.getD ((i : Nat) : Int).toNat z = xs[i] := by
  simp [List.getD_eq_getElem?_getD, List.getElem?_eq_getElem hi]
/-- A loop over places with a number that is carried on; what holds of it (I), and what the loop answers (Z). -/
theorem ev_carry {γ : Type} (L : Nat → Int → Int → Option γ) (n : Nat) (I : Nat → Int → Prop) (Z : γ → Prop) (h1 : ∀ a, I n a → ∃ R, Ev (fun k => L k a (n : Nat)) R ∧ Z R)
    (h2 : ∀ (i : Nat) (a : Int), i < n → I i a → (∃ R, Ev (fun k => L k a (i : Nat)) R ∧ Z R) ∨ ∃ b, I (i + 1) b ∧ ∀ R, Ev (fun k => L k b ((i + 1 : Nat) : Int)) R → Ev (fun k => L k a (i : Nat)) R) (a : Int) (ha : I 0 a) : ∃ R, Ev (fun k => L k a 0) R ∧ Z R := by
  have key : ∀ m i : Nat, n - i = m → i ≤ n → ∀ a, I i a → ∃ R, Ev (fun k => L k a (i : Nat)) R ∧ Z R := by
    intro m
    induction m with
    | zero =>
      intro i hm hi a ha
      obtain rfl : i = n := by omega
      exact h1 a ha
    | succ m ih =>
      intro i hm hi a ha
      rcases h2 i a (by omega) ha with h | ⟨b, hb, h⟩
      · exact h
      · obtain ⟨R, hR, hZ⟩ := ih (i + 1) (by omega) (by omega) b hb
        exact ⟨R, h R hR, hZ⟩
  simpa using key n 0 (by omega) (by omega) a ha
end Go.Proofs.YtkfcmpalbhmmaaaDoor.Q
namespace Go.Proofs.YtkfcmpalbhmmaaaDoor.Q
open Go.RowKit Go.Proofs.YtkfcmpalbhmmaaaDoor.P Go.Proofs.YtkfcmpalbhmmaaaDoorW.PrintWords Go.Proofs.YtkfcmpalbhmmaaaDoorW.PrintLast Go.Proofs.YtkfcmpalbhmmaaaDoorW.PrintMore

/-- n marks from k on. -/
def marks (n : Nat) (k : Int) : List Int := (List.range n).map fun (i : Nat) => (k + (i : Int)) % 256
theorem marks_length (n : Nat) (k : Int) : (marks n k).length = n := by simp [marks]
theorem rd_marks (n : Nat) (k : Int) (i : Nat) (h : i < n) : rd (marks n k) i = (k + i) % 256 := by
  simp [Go.Proofs.YtkfcmpalbhmmaaaDoorW.PrintWords.rd, marks, h]
theorem mark_set (xs : List Int) (k : Int) (i : Nat) (h : i < xs.length) : (marks i k ++ xs.drop i).set i ((k + i) % 256) = marks (i + 1) k ++ xs.drop (i + 1) := by
  rw [List.set_append, if_neg (by rw [marks_length]; omega), marks_length, Nat.sub_self, List.drop_eq_getElem_cons h, List.set_cons_zero]
  simp [marks, List.range_succ]
theorem mark_loop (xs : List Int) (k0 : Int) (hk : 0 ≤ k0) (hk1 : k0 + xs.length ≤ 9223372036854775807) (n : Nat) : ∀ (i : Nat), i ≤ xs.length → xs.length - i = n →
    Ev (fun k => laws_markByteS.l0 k (marks i k0 ++ xs.drop i) (k0 + i) i) (k0 + xs.length, marks xs.length k0) := by
  induction n with
  | zero =>
    intro i hi hn
    apply evPre
    simp only [laws_markByteS.l0]
    obtain rfl : i = xs.length := by omega
    refine evN (by simp [marks_length]) (evC (Ev.now _) ?_)
    simp
  | succ n ih =>
    intro i hi hn
    have ih := ih (i + 1) (by omega) (by omega)
    rw [show ((i + 1 : Nat) : Int) = (i : Int) + 1 from by omega] at ih
    apply evPre
    simp only [laws_markByteS.l0]
    refine evP (by simp [marks_length]; omega) (evP (by omega) ?_)
    rw [Int.toNat_natCast, mark_set xs k0 i (by omega), w64 (n := k0 + (i : Int) + 1) (by omega) (by omega), w64 (n := (i : Int) + 1) (by omega) (by omega), Int.add_assoc]
    exact ih
theorem markByteS_ev (xs : List Int) (k0 : Int) (hk : 0 ≤ k0) (hk1 : k0 + xs.length ≤ 9223372036854775807) : Ev (fun k => laws_markByteS.f k xs k0) (k0 + xs.length, marks xs.length k0) := by
  have h := mark_loop xs k0 hk hk1 xs.length 0 (by omega) (by omega)
  simpa [laws_markByteS.f, marks] using h
theorem held_loop (m : Nat) (k0 : Int) (hk : 0 ≤ k0) (hk1 : k0 + m ≤ 9223372036854775807) (n : Nat) : ∀ (i : Nat), i ≤ m → m - i = n →
    Ev (fun k => laws_heldByteS.l0 k (marks m k0) (k0 + i) i) (k0 + m) := by
  induction n with
  | zero =>
    intro i hi hn
    apply evPre
    simp only [laws_heldByteS.l0]
    obtain rfl : i = m := by omega
    exact evN (by simp [marks_length]) (Ev.now _)
  | succ n ih =>
    intro i hi hn
    have ih := ih (i + 1) (by omega) (by omega)
    rw [show ((i + 1 : Nat) : Int) = (i : Int) + 1 from by omega] at ih
    apply evPre
    simp only [laws_heldByteS.l0]
    refine evP (by simp [marks_length]; omega) (evP (by omega) (evP (rd_marks m k0 i (by omega)) ?_))
    rw [w64 (n := k0 + (i : Int) + 1) (by omega) (by omega), w64 (n := (i : Int) + 1) (by omega) (by omega), Int.add_assoc]
    exact ih
theorem heldByteS_ev (m : Nat) (k0 : Int) (hk : 0 ≤ k0) (hk1 : k0 + m ≤ 9223372036854775807) : Ev (fun k => laws_heldByteS.f k (marks m k0) k0) (k0 + m) := by
  have h := held_loop m k0 hk hk1 m 0 (by omega) (by omega)
  simpa [laws_heldByteS.f] using h
end Go.Proofs.YtkfcmpalbhmmaaaDoor.Q
namespace Go.Proofs.YtkfcmpalbhmmaaaDoor.Q
open Go.RowKit Go.Proofs.YtkfcmpalbhmmaaaDoor.P Go.Proofs.YtkfcmpalbhmmaaaDoorW.PrintWords Go.Proofs.YtkfcmpalbhmmaaaDoorW.PrintLast Go.Proofs.YtkfcmpalbhmmaaaDoorW.PrintMore

def iEnt (x : S141) : S91 := ⟨x.f0, x.f1⟩
def iAttr (x : S143) : S87 := ⟨x.f0, x.f1⟩
theorem nxt (i : Nat) (n : Nat) (hi : i < n) (hn : n ≤ 9223372036854775807) : wrap64 ((i : Int) + 1) = ((i + 1 : Nat) : Int) := by
  rw [w64 (by omega) (by omega)]; omega
theorem toEntS_ev (l : List S141) (hl : l.length ≤ 11728124029610) : Ev (fun k => laws_toEntS.f k l) (l.map iEnt) := by
  unfold laws_toEntS.f
  refine evP (by omega) (evP (by omega) ?_)
  rw [Int.toNat_natCast]
  refine ev_copy (fun k ys i => laws_toEntS.l0 k l ys i) l iEnt _ (fun ys => ?_) (fun i hi ys hy R h => ?_)
  · apply evPre
    simp only [laws_toEntS.l0]
    exact evN (by omega) (Ev.now _)
  · apply evPre
    simp only [laws_toEntS.l0, laws_toEnt.f, Option.bind_some]
    refine evP (by omega) (evP (by omega) (evP (by omega) ?_))
    rw [nxt i l.length hi (by omega), Int.toNat_natCast]
    simp only [rd_T141, getD_at l _ i hi]
    exact h
theorem toAttrS_ev (l : List S143) (hl : l.length ≤ 8796093022208) : Ev (fun k => laws_toAttrS.f k l) (l.map iAttr) := by
  unfold laws_toAttrS.f
  refine evP (by omega) (evP (by omega) ?_)
  rw [Int.toNat_natCast]
  refine ev_copy (fun k ys i => laws_toAttrS.l0 k l ys i) l iAttr _ (fun ys => ?_) (fun i hi ys hy R h => ?_)
  · apply evPre
    simp only [laws_toAttrS.l0]
    exact evN (by omega) (Ev.now _)
  · apply evPre
    simp only [laws_toAttrS.l0, laws_toAttr.f, Option.bind_some]
    refine evP (by omega) (evP (by omega) (evP (by omega) ?_))
    rw [nxt i l.length hi (by omega), Int.toNat_natCast]
    simp only [rd_T143, getD_at l _ i hi]
    exact h
theorem toInode_ev (a b c : Int) (d : List Int) (e : List S141) (t : List S143) (hd : d.length ≤ 1048576) (he : e.length ≤ 1048576) (ht : t.length ≤ 1048576) :
    Ev (fun k => laws_toInode.f k a b c d e t) (a, b, c, d, e.map iEnt, t.map iAttr) := by
  unfold laws_toInode.f
  exact Ev.bind (toByteS_ev d (by omega)) (Ev.bind (toEntS_ev e (by omega)) (Ev.bind (toAttrS_ev t (by omega)) (Ev.now _)))
theorem eqEntS_refl (l : List S91) (hl : l.length ≤ 9223372036854775807) : Ev (fun k => laws_eqEntS.f k l l) true := by
  unfold laws_eqEntS.f
  refine evP rfl (ev_scan (fun k i => laws_eqEntS.l0 k l l i) l.length true ?_ (fun i hi h => ?_))
  · apply evPre
    simp only [laws_eqEntS.l0]
    exact evN (by omega) (Ev.now _)
  · apply evPre
    simp only [laws_eqEntS.l0, laws_eqEnt.f, if_true, Option.bind_some]
    refine evP (by omega) (evP (by omega) (evP (by omega) ?_))
    rw [nxt i l.length hi hl]
    exact h
theorem eqAttrS_refl (l : List S87) (hl : l.length ≤ 9223372036854775807) : Ev (fun k => laws_eqAttrS.f k l l) true := by
  unfold laws_eqAttrS.f
  refine evP rfl (ev_scan (fun k i => laws_eqAttrS.l0 k l l i) l.length true ?_ (fun i hi h => ?_))
  · apply evPre
    simp only [laws_eqAttrS.l0]
    exact evN (by omega) (Ev.now _)
  · apply evPre
    simp only [laws_eqAttrS.l0, laws_eqAttr.f, if_true, Option.bind_some]
    refine evP (by omega) (evP (by omega) (evP (by omega) ?_))
    rw [nxt i l.length hi hl]
    exact h
theorem eqInode_refl (a b c : Int) (d : List Int) (e : List S91) (t : List S87) (hd : d.length ≤ 9223372036854775807) (he : e.length ≤ 9223372036854775807) (ht : t.length ≤ 9223372036854775807) :
    Ev (fun k => laws_eqInode.f k a b c d e t a b c d e t) true := by
  unfold laws_eqInode.f
  refine evP rfl (evP rfl (evP rfl (Ev.bind (eqByteS_ev d d hd) (evP (by simp) (Ev.bind (eqEntS_refl e he) (evP rfl (Ev.bind (eqAttrS_refl t ht) (evP rfl (Ev.now _)))))))))

/-- What is left of a size, and is not below 0, bounds what was counted. -/
theorem szByteS_ev (d : List Int) (n : Int) (h0 : 0 ≤ n) (h1 : n ≤ 1048576) (hd : d.length ≤ 9223372036854775807) : ∃ R, laws_szByteS.f d n = some R ∧ (0 ≤ R → R = n - d.length) ∧ R ≤ n := by
  unfold laws_szByteS.f
  rw [w64 (by omega) (by omega)]
  by_cases h : n - (d.length : Int) < 0
  · rw [if_pos h]; exact ⟨_, rfl, fun h => by omega, by omega⟩
  · rw [if_neg h]; exact ⟨_, rfl, fun _ => rfl, by omega⟩
def entSz (l : List S141) : Nat := (l.map fun e => e.f0.size).sum
def attrSz (l : List S143) : Nat := (l.map fun e => e.f0.size + e.f1.size).sum
theorem sum_take {α : Type} (f : α → Nat) (l : List α) (i : Nat) (hi : i < l.length) : ((l.take (i + 1)).map f).sum = ((l.take i).map f).sum + f l[i] := by
  rw [List.take_succ_eq_append_getElem hi, List.map_append, List.sum_append]; simp
theorem szEntS_ev (l : List S141) (n : Int) (h0 : 0 ≤ n) (h1 : n ≤ 1048576) (hl : l.length ≤ 9223372036854775807) (hg : ∀ e ∈ l, e.f0.size ≤ 9223372036854775807) :
    ∃ R, Ev (fun k => laws_szEntS.f k l n) R ∧ (0 ≤ R → R = n - l.length - entSz l) ∧ R ≤ n := by
  unfold laws_szEntS.f
  rw [w64 (by omega) (by omega)]
  by_cases h : n - (l.length : Int) < 0
  · exact ⟨-1, evP h (Ev.now _), fun h => by omega, by omega⟩
  · obtain ⟨R, hR, hZ⟩ := ev_carry (fun k a i => laws_szEntS.l0 k l a i) l.length (fun i a => 0 ≤ a ∧ a = n - l.length - ((l.take i).map fun e => e.f0.size).sum) (fun R => (0 ≤ R → R = n - l.length - entSz l) ∧ R ≤ n)
      (fun a ha => ⟨a, by
        apply evPre
        simp only [laws_szEntS.l0]
        exact evN (by omega) (Ev.now _), fun _ => by rw [ha.2, List.take_length]; rfl, by omega⟩)
      (fun i a hi ha => by
        have hm := hg l[i] (List.getElem_mem hi)
        have hs := sum_take (fun e : S141 => e.f0.size) l i hi
        by_cases hlt : a - (l[i].f0.size : Int) < 0
        · refine .inl ⟨-1, ?_, fun h => by omega, by omega⟩
          apply evPre
          simp only [laws_szEntS.l0, laws_szEnt.f, rd_T141, getD_at l _ i hi]
          rw [w64 (n := a - (l[i].f0.size : Int)) (by omega) (by omega), if_pos hlt]
          simp only [Option.bind_some]
          exact evP (by omega) (evP (by omega) (evP (by omega) (Ev.now _)))
        · refine .inr ⟨a - (l[i].f0.size : Int), ⟨by omega, by rw [hs]; omega⟩, fun R h => ?_⟩
          apply evPre
          simp only [laws_szEntS.l0, laws_szEnt.f, rd_T141, getD_at l _ i hi]
          rw [w64 (n := a - (l[i].f0.size : Int)) (by omega) (by omega), if_neg hlt]
          simp only [Option.bind_some]
          refine evP (by omega) (evP (by omega) (evN (by omega) ?_))
          rw [nxt i l.length hi hl]
          exact h) (n - l.length) ⟨by omega, by simp⟩
    exact ⟨R, evN h hR, hZ⟩
theorem szAttrS_ev (l : List S143) (n : Int) (h0 : 0 ≤ n) (h1 : n ≤ 1048576) (hl : l.length ≤ 9223372036854775807) (hg : ∀ e ∈ l, e.f0.size ≤ 9223372036854775807 ∧ e.f1.size ≤ 9223372036854775807) :
    ∃ R, Ev (fun k => laws_szAttrS.f k l n) R ∧ (0 ≤ R → R = n - l.length - attrSz l) ∧ R ≤ n := by
  unfold laws_szAttrS.f
  rw [w64 (by omega) (by omega)]
  by_cases h : n - (l.length : Int) < 0
  · exact ⟨-1, evP h (Ev.now _), fun h => by omega, by omega⟩
  · obtain ⟨R, hR, hZ⟩ := ev_carry (fun k a i => laws_szAttrS.l0 k l a i) l.length (fun i a => 0 ≤ a ∧ a = n - l.length - ((l.take i).map fun e => e.f0.size + e.f1.size).sum) (fun R => (0 ≤ R → R = n - l.length - attrSz l) ∧ R ≤ n)
      (fun a ha => ⟨a, by
        apply evPre
        simp only [laws_szAttrS.l0]
        exact evN (by omega) (Ev.now _), fun _ => by rw [ha.2, List.take_length]; rfl, by omega⟩)
      (fun i a hi ha => by
        have hm := hg l[i] (List.getElem_mem hi)
        have hs := sum_take (fun e : S143 => e.f0.size + e.f1.size) l i hi
        by_cases hlt : a - (l[i].f0.size : Int) < 0
        · refine .inl ⟨-1, ?_, fun h => by omega, by omega⟩
          apply evPre
          simp only [laws_szAttrS.l0, laws_szAttr.f, rd_T143, getD_at l _ i hi]
          rw [w64 (n := a - (l[i].f0.size : Int)) (by omega) (by omega), if_pos hlt]
          simp only [Option.bind_some]
          exact evP (by omega) (evP (by omega) (evP (by omega) (Ev.now _)))
        · by_cases hlt2 : a - (l[i].f0.size : Int) - (l[i].f1.size : Int) < 0
          · refine .inl ⟨-1, ?_, fun h => by omega, by omega⟩
            apply evPre
            simp only [laws_szAttrS.l0, laws_szAttr.f, rd_T143, getD_at l _ i hi]
            rw [w64 (n := a - (l[i].f0.size : Int)) (by omega) (by omega), if_neg hlt, w64 (n := a - (l[i].f0.size : Int) - (l[i].f1.size : Int)) (by omega) (by omega), if_pos hlt2]
            simp only [Option.bind_some]
            exact evP (by omega) (evP (by omega) (evP (by omega) (Ev.now _)))
          · refine .inr ⟨a - (l[i].f0.size : Int) - (l[i].f1.size : Int), ⟨by omega, by rw [hs]; omega⟩, fun R h => ?_⟩
            apply evPre
            simp only [laws_szAttrS.l0, laws_szAttr.f, rd_T143, getD_at l _ i hi]
            rw [w64 (n := a - (l[i].f0.size : Int)) (by omega) (by omega), if_neg hlt, w64 (n := a - (l[i].f0.size : Int) - (l[i].f1.size : Int)) (by omega) (by omega), if_neg hlt2]
            simp only [Option.bind_some]
            refine evP (by omega) (evP (by omega) (evN (by omega) ?_))
            rw [nxt i l.length hi hl]
            exact h) (n - l.length) ⟨by omega, by simp⟩
    exact ⟨R, evN h hR, hZ⟩
def inodeSz (d : List Int) (e : List S141) (t : List S143) : Nat := d.length + e.length + entSz e + t.length + attrSz t
theorem szInode_ev (a b c : Int) (d : List Int) (e : List S141) (t : List S143) (n : Int) (h0 : 0 ≤ n) (h1 : n ≤ 1048576) (hd : d.length ≤ 9223372036854775807) (he : e.length ≤ 9223372036854775807) (ht : t.length ≤ 9223372036854775807)
    (ge : ∀ x ∈ e, x.f0.size ≤ 9223372036854775807) (gt : ∀ x ∈ t, x.f0.size ≤ 9223372036854775807 ∧ x.f1.size ≤ 9223372036854775807) :
    ∃ R, Ev (fun k => laws_szInode.f k a b c d e t n) R ∧ (0 ≤ R → R = n - inodeSz d e t) ∧ R ≤ n := by
  unfold laws_szInode.f
  obtain ⟨R1, e1, z1, l1⟩ := szByteS_ev d n h0 h1 hd
  simp only [e1, Option.bind_some]
  by_cases c1 : R1 < 0
  · exact ⟨-1, evP c1 (Ev.now _), fun h => by omega, by omega⟩
  obtain ⟨R2, e2, z2, l2⟩ := szEntS_ev e R1 (by omega) (by omega) he ge
  by_cases c2 : R2 < 0
  · exact ⟨-1, evN c1 (Ev.bind e2 (evP c2 (Ev.now _))), fun h => by omega, by omega⟩
  obtain ⟨R3, e3, z3, l3⟩ := szAttrS_ev t R2 (by omega) (by omega) ht gt
  by_cases c3 : R3 < 0
  · exact ⟨-1, evN c1 (Ev.bind e2 (evN c2 (Ev.bind e3 (evP c3 (Ev.now _))))), fun h => by omega, by omega⟩
  · refine ⟨R3, evN c1 (Ev.bind e2 (evN c2 (Ev.bind e3 (evN c3 (Ev.now _))))), fun h => ?_, by omega⟩
    have := z1 (by omega)
    have := z2 (by omega)
    have := z3 (by omega)
    unfold inodeSz
    omega
end Go.Proofs.YtkfcmpalbhmmaaaDoor.Q
namespace Go.Proofs.YtkfcmpalbhmmaaaDoor.Q
open Go.RowKit Go.Proofs.YtkfcmpalbhmmaaaDoor.P Go.Proofs.YtkfcmpalbhmmaaaDoorW.PrintWords Go.Proofs.YtkfcmpalbhmmaaaDoorW.PrintLast Go.Proofs.YtkfcmpalbhmmaaaDoorW.PrintMore

/-- From the end to the begin. -/
theorem down {n : Nat} {P : Nat → Prop} (h1 : P n) (h2 : ∀ i, i < n → P (i + 1) → P i) : P 0 := by
  have key : ∀ m i : Nat, n - i = m → i ≤ n → P i := by
    intro m
    induction m with
    | zero => intro i hm hi; obtain rfl : i = n := by omega
              exact h1
    | succ m ih => intro i hm hi; exact h2 i (by omega) (ih (i + 1) (by omega) (by omega))
  exact key n 0 (by omega) (by omega)

def iInode (x : S115) : S64 := ⟨x.f0, x.f1, x.f2, x.f3, x.f4.map iEnt, x.f5.map iAttr⟩
/-- An inode whose lists and names are of a size that one can hold. -/
def InoB (x : S115) : Prop := x.f3.length ≤ 1048576 ∧ x.f4.length ≤ 1048576 ∧ x.f5.length ≤ 1048576
theorem toInodeS_ev (l : List S115) (hl : l.length ≤ 1048576) (hb : ∀ x ∈ l, InoB x) : Ev (fun k => laws_toInodeS.f k l) (l.map iInode) := by
  unfold laws_toInodeS.f
  refine evP (by omega) (evP (by omega) ?_)
  rw [Int.toNat_natCast]
  refine ev_copy (fun k ys i => laws_toInodeS.l0 k l ys i) l iInode _ (fun ys => ?_) (fun i hi ys hy R h => ?_)
  · apply evPre
    simp only [laws_toInodeS.l0]
    exact evN (by omega) (Ev.now _)
  · have hB := hb l[i] (List.getElem_mem hi)
    have ht := toInode_ev l[i].f0 l[i].f1 l[i].f2 l[i].f3 l[i].f4 l[i].f5 hB.1 hB.2.1 hB.2.2
    apply evPre
    simp only [laws_toInodeS.l0, rd_T115, getD_at l _ i hi]
    refine evP (by omega) (evP (by omega) (Ev.bind ht (evP (by omega) ?_)))
    rw [nxt i l.length hi (by omega), Int.toNat_natCast]
    exact h
theorem toTab_ev (l : List S115) (n : Int) (hl : l.length ≤ 1048576) (hb : ∀ x ∈ l, InoB x) : Ev (fun k => laws_toTab.f k l n) (l.map iInode, n) := by
  unfold laws_toTab.f
  exact Ev.bind (toInodeS_ev l hl hb) (Ev.now _)
theorem eqInodeS_refl (l : List S64) (hl : l.length ≤ 9223372036854775807) (hb : ∀ x ∈ l, x.f3.length ≤ 9223372036854775807 ∧ x.f4.length ≤ 9223372036854775807 ∧ x.f5.length ≤ 9223372036854775807) : Ev (fun k => laws_eqInodeS.f k l l) true := by
  unfold laws_eqInodeS.f
  refine evP rfl ?_
  refine ev_scan (fun k i => laws_eqInodeS.l0 k l l i) l.length true ?_ (fun i hi h => ?_)
  · apply evPre
    simp only [laws_eqInodeS.l0]
    exact evN (by omega) (Ev.now _)
  · have hB := hb l[i] (List.getElem_mem hi)
    apply evPre
    simp only [laws_eqInodeS.l0, rd_T64, getD_at l _ i hi]
    refine evP (by omega) (evP (by omega) (evP (by omega) (Ev.bind (eqInode_refl _ _ _ _ _ _ hB.1 hB.2.1 hB.2.2) (evP rfl ?_))))
    rw [nxt i l.length hi hl]
    exact h
theorem eqTab_refl (l : List S64) (n : Int) (hl : l.length ≤ 9223372036854775807) (hb : ∀ x ∈ l, x.f3.length ≤ 9223372036854775807 ∧ x.f4.length ≤ 9223372036854775807 ∧ x.f5.length ≤ 9223372036854775807) : Ev (fun k => laws_eqTab.f k l n l n) true := by
  unfold laws_eqTab.f
  exact Ev.bind (eqInodeS_refl l hl hb) (evP rfl (evP rfl (Ev.now _)))
theorem iInode_b (l : List S115) (hb : ∀ x ∈ l, InoB x) : ∀ x ∈ l.map iInode, x.f3.length ≤ 9223372036854775807 ∧ x.f4.length ≤ 9223372036854775807 ∧ x.f5.length ≤ 9223372036854775807 := by
  intro x hx
  obtain ⟨y, hy, rfl⟩ := List.mem_map.1 hx
  have := hb y hy
  unfold InoB at this
  simp only [iInode, List.length_map]
  omega

/-- An inode that could be read. -/
def InoM (x : S115) : Prop := x.f3.length ≤ 9223372036854775807 ∧ x.f4.length ≤ 9223372036854775807 ∧ x.f5.length ≤ 9223372036854775807 ∧ (∀ e ∈ x.f4, e.f0.size ≤ 9223372036854775807) ∧ (∀ e ∈ x.f5, e.f0.size ≤ 9223372036854775807 ∧ e.f1.size ≤ 9223372036854775807)
def inoSz (x : S115) : Nat := inodeSz x.f3 x.f4 x.f5
def tabSz (l : List S115) : Nat := l.length + (l.map inoSz).sum
theorem szInodeS_ev (l : List S115) (n : Int) (h0 : 0 ≤ n) (h1 : n ≤ 1048576) (hl : l.length ≤ 9223372036854775807) (hg : ∀ x ∈ l, InoM x) :
    ∃ R, Ev (fun k => laws_szInodeS.f k l n) R ∧ (0 ≤ R → R = n - tabSz l) ∧ R ≤ n := by
  unfold laws_szInodeS.f
  rw [w64 (by omega) (by omega)]
  by_cases h : n - (l.length : Int) < 0
  · exact ⟨-1, evP h (Ev.now _), fun h => by omega, by omega⟩
  · obtain ⟨R, hR, hZ⟩ := ev_carry (fun k a i => laws_szInodeS.l0 k l a i) l.length (fun i a => 0 ≤ a ∧ a ≤ n ∧ a = n - l.length - ((l.take i).map inoSz).sum) (fun R => (0 ≤ R → R = n - tabSz l) ∧ R ≤ n)
      (fun a ha => ⟨a, by
        apply evPre
        simp only [laws_szInodeS.l0]
        exact evN (by omega) (Ev.now _), fun _ => by rw [ha.2.2, List.take_length]; unfold tabSz; omega, by omega⟩)
      (fun i a hi ha => by
        obtain ⟨m1, m2, m3, m4, m5⟩ := hg l[i] (List.getElem_mem hi)
        have hs := sum_take inoSz l i hi
        obtain ⟨R1, e1, z1, l1⟩ := szInode_ev l[i].f0 l[i].f1 l[i].f2 l[i].f3 l[i].f4 l[i].f5 a ha.1 (by omega) m1 m2 m3 m4 m5
        by_cases hlt : R1 < 0
        · refine .inl ⟨-1, ?_, fun h => by omega, by omega⟩
          apply evPre
          simp only [laws_szInodeS.l0, rd_T115, getD_at l _ i hi]
          exact evP (by omega) (evP (by omega) (Ev.bind e1 (evP hlt (Ev.now _))))
        · have z1 := z1 (by omega)
          refine .inr ⟨R1, ⟨by omega, by omega, by rw [hs]; unfold inoSz at *; omega⟩, fun R h => ?_⟩
          apply evPre
          simp only [laws_szInodeS.l0, rd_T115, getD_at l _ i hi]
          refine evP (by omega) (evP (by omega) (Ev.bind e1 (evN hlt ?_)))
          rw [nxt i l.length hi hl]
          exact h) (n - l.length) ⟨by omega, by omega, by simp⟩
    exact ⟨R, evN h hR, hZ⟩
theorem szTab_ev (l : List S115) (nx n : Int) (h0 : 0 ≤ n) (h1 : n ≤ 1048576) (hl : l.length ≤ 9223372036854775807) (hg : ∀ x ∈ l, InoM x) :
    ∃ R, Ev (fun k => laws_szTab.f k l nx n) R ∧ (0 ≤ R → R = n - tabSz l) ∧ R ≤ n := by
  obtain ⟨R, e, z, h⟩ := szInodeS_ev l n h0 h1 hl hg
  unfold laws_szTab.f
  by_cases c : R < 0
  · exact ⟨-1, Ev.bind e (evP c (Ev.now _)), fun h => by omega, by omega⟩
  · exact ⟨R, Ev.bind e (evN c (Ev.now _)), z, h⟩
theorem mem_le_sum {α : Type} (f : α → Nat) (l : List α) (x : α) (h : x ∈ l) : f x ≤ (l.map f).sum := by
  induction l with
  | nil => cases h
  | cons y l ih =>
    rw [List.map_cons, List.sum_cons]
    rcases List.mem_cons.1 h with rfl | h
    · omega
    · have := ih h; omega
/-- What is known of an inode of a table that is small enough. -/
structure InoS (x : S115) : Prop where
  d : x.f3.length ≤ 1048576
  e : x.f4.length ≤ 1048576
  t : x.f5.length ≤ 1048576
  en : ∀ y ∈ x.f4, y.f0.size ≤ 1048576
  tn : ∀ y ∈ x.f5, y.f0.size ≤ 1048576 ∧ y.f1.size ≤ 1048576
theorem inoS_of (x : S115) (h : inoSz x ≤ 1048576) : InoS x := by
  unfold inoSz inodeSz at h
  refine ⟨by omega, by omega, by omega, fun y hy => ?_, fun y hy => ?_⟩
  · have := mem_le_sum (fun e : S141 => e.f0.size) x.f4 y hy
    unfold entSz at h
    omega
  · have := mem_le_sum (fun e : S143 => e.f0.size + e.f1.size) x.f5 y hy
    unfold attrSz at h
    omega
theorem tab_small (l : List S115) (h : tabSz l ≤ 1048576) : l.length ≤ 1048576 ∧ ∀ x ∈ l, InoS x := by
  unfold tabSz at h
  refine ⟨by omega, fun x hx => inoS_of x ?_⟩
  have := mem_le_sum inoSz l x hx
  omega
end Go.Proofs.YtkfcmpalbhmmaaaDoor.Q
namespace Go.Proofs.YtkfcmpalbhmmaaaDoor.Q
open Go.RowKit Go.Proofs.YtkfcmpalbhmmaaaDoor.P Go.Proofs.YtkfcmpalbhmmaaaDoor.Kinds Go.Proofs.YtkfcmpalbhmmaaaDoorW.PrintWords Go.Proofs.YtkfcmpalbhmmaaaDoorW.PrintLast Go.Proofs.YtkfcmpalbhmmaaaDoorW.PrintMore

theorem good_tab (l : List S115) (h : ∀ x ∈ l, g115 x) : ∀ x ∈ l, InoM x := by
  intro x hx
  obtain ⟨_, _, _, ⟨hd, _⟩, ⟨he, ge⟩, ⟨ht, gt⟩⟩ := h x hx
  have hM : maxLen = 9223372036854775807 := rfl
  simp only [hM] at *
  exact ⟨hd, he, ht, fun e h => (ge e h).1, fun e h => gt e h⟩
theorem inoB_of (l : List S115) (h : ∀ x ∈ l, InoS x) : ∀ x ∈ l, InoB x := fun x hx => ⟨(h x hx).d, (h x hx).e, (h x hx).t⟩
/-- A small table's copy: its lists. -/
theorem small_map (l : List S115) (h : ∀ x ∈ l, InoS x) : ∀ x ∈ l.map iInode, x.f3.length ≤ 1048576 ∧ x.f4.length ≤ 1048576 ∧ x.f5.length ≤ 1048576 := by
  intro x hx
  obtain ⟨y, hy, rfl⟩ := List.mem_map.1 hx
  have := h y hy
  simp only [iInode, List.length_map]
  exact ⟨this.d, this.e, this.t⟩
end Go.Proofs.YtkfcmpalbhmmaaaDoor.Q
namespace Go.Proofs.YtkfcmpalbhmmaaaDoor.Q
open Go.RowKit Go.Proofs.YtkfcmpalbhmmaaaDoor.P Go.Proofs.YtkfcmpalbhmmaaaDoorW.PrintWords Go.Proofs.YtkfcmpalbhmmaaaDoorW.PrintLast Go.Proofs.YtkfcmpalbhmmaaaDoorW.PrintMore

theorem textSize (l : List Int) : (strOfNums l).size = l.length := by
  simp [strOfNums, ByteArray.size]
theorem mtext_loop (m : Nat) : ∀ (n : Int) (s : ByteArray), 0 ≤ n → n ≤ 9223372036854775807 → n < 10 ^ m → s.size + m ≤ 1000 → ∃ r, Ev (fun k => laws_markText.l0 k n s) r := by
  induction m with
  | zero =>
    intro n s h0 _ h1 hs
    refine ⟨(⟨#[109]⟩ : ByteArray) ++ s, evPre ?_⟩
    simp only [laws_markText.l0]
    exact evN (by omega) (evP (by omega) (Ev.now _))
  | succ m ih =>
    intro n s h0 hM h1 hs
    by_cases hn : n > 0
    · have hd : wrap64 (Int.tdiv n 10) = n / 10 := by rw [Int.tdiv_eq_ediv_of_nonneg h0]; exact w64 (by omega) (by omega)
      obtain ⟨r, hr⟩ := ih (n / 10) ((strOfNums [wrap64 (48 + Int.tmod n 10) % 256]) ++ s) (by omega) (by omega) (by rw [Int.pow_succ] at h1; omega) (by rw [ByteArray.size_append, textSize]; simp; omega)
      refine ⟨r, evPre ?_⟩
      simp only [laws_markText.l0, Option.bind_some, hd]
      exact evP hn (evP (by rw [textSize]; simp; omega) hr)
    · refine ⟨(⟨#[109]⟩ : ByteArray) ++ s, evPre ?_⟩
      simp only [laws_markText.l0]
      exact evN hn (evP (by omega) (Ev.now _))
theorem mtext (n : Int) (h0 : 1 ≤ n) (h1 : n ≤ 9223372036854775807) : ∃ r, Ev (fun k => laws_markText.f k n) r := by
  obtain ⟨r, h⟩ := mtext_loop 19 n ⟨#[]⟩ (by omega) h1 (by omega) (by decide)
  exact ⟨r, by unfold laws_markText.f; exact evN (by omega) h⟩
theorem take_set_at {α : Type} (y : List α) (i : Nat) (v : α) (h : i < y.length) : (y.set i v).take (i + 1) = y.take i ++ [v] := by
  rw [List.take_succ_eq_append_getElem (by simpa using h), List.getElem_set_self, List.take_set_of_le (Nat.le_refl i)]

/-- The names and numbers of a directory's entries hold the marks from a on. -/
def HeldE : Int → List S91 → Prop
  | _, [] => True
  | a, x :: l => Ev (fun k => laws_markText.f k a) x.f0 ∧ x.f1 = a + 1 ∧ HeldE (a + 2) l
/-- The same, for attributes. -/
def HeldA : Int → List S87 → Prop
  | _, [] => True
  | a, x :: l => Ev (fun k => laws_markText.f k a) x.f0 ∧ Ev (fun k => laws_markText.f k (a + 1)) x.f1 ∧ HeldA (a + 2) l
theorem heldE_at (l : List S91) : ∀ (a : Int) (i : Nat) (h : i < l.length), HeldE a l → Ev (fun k => laws_markText.f k (a + 2 * i)) l[i].f0 ∧ l[i].f1 = a + 2 * i + 1 := by
  induction l with
  | nil => intro a i h; simp at h
  | cons x l ih =>
    intro a i h hh
    cases i with
    | zero => exact ⟨by simpa using hh.1, by simpa using hh.2.1⟩
    | succ i =>
      obtain ⟨h1, h2⟩ := ih (a + 2) i (by simpa using h) hh.2.2
      rw [show a + 2 + 2 * (i : Int) = a + 2 * ((i + 1 : Nat) : Int) from by omega] at h1 h2
      exact ⟨h1, h2⟩
theorem heldA_at (l : List S87) : ∀ (a : Int) (i : Nat) (h : i < l.length), HeldA a l → Ev (fun k => laws_markText.f k (a + 2 * i)) l[i].f0 ∧ Ev (fun k => laws_markText.f k (a + 2 * i + 1)) l[i].f1 := by
  induction l with
  | nil => intro a i h; simp at h
  | cons x l ih =>
    intro a i h hh
    cases i with
    | zero => exact ⟨by simpa using hh.1, by simpa using hh.2.1⟩
    | succ i =>
      obtain ⟨h1, h2⟩ := ih (a + 2) i (by simpa using h) hh.2.2
      rw [show a + 2 + 2 * (i : Int) = a + 2 * ((i + 1 : Nat) : Int) from by omega] at h1 h2
      exact ⟨h1, h2⟩
theorem markEntS (l : List S91) (x : Int) (h0 : 1 ≤ x) (h1 : x + 2 * l.length ≤ 4611686018427387904) : ∃ r, Ev (fun k => laws_markEntS.f k l x) (x + 2 * l.length, r) ∧ r.length = l.length ∧ HeldE x r := by
  have key := down (n := l.length) (P := fun i => ∀ y : List S91, y.length = l.length → ∃ r, Ev (fun k => laws_markEntS.l0 k y (x + 2 * i) (i : Nat)) (x + 2 * l.length, y.take i ++ r) ∧ i + r.length = l.length ∧ HeldE (x + 2 * i) r) (by
      intro y hy
      refine ⟨[], evPre ?_, by simp, trivial⟩
      simp only [laws_markEntS.l0]
      refine evN (by omega) (evC (Ev.now _) ?_)
      rw [← hy, List.take_length, List.append_nil]) (by
      intro i hi h y hy
      obtain ⟨s, hs⟩ := mtext (x + 2 * i) (by omega) (by omega)
      obtain ⟨r, hr, hl, hh⟩ := h (((y.set i (⟨s, (rd_T91 y (i : Nat)).f1⟩ : S91)).set i (⟨(rd_T91 (y.set i (⟨s, (rd_T91 y (i : Nat)).f1⟩ : S91)) (i : Nat)).f0, x + 2 * i + 1⟩ : S91))) (by simp [hy])
      have e0 : (rd_T91 (y.set i (⟨s, (rd_T91 y (i : Nat)).f1⟩ : S91)) (i : Nat)).f0 = s := by rw [rd_T91, getD_at _ _ i (by simpa using (by omega : i < y.length)), List.getElem_set_self]
      have e1 := e0
      refine ⟨⟨s, x + 2 * i + 1⟩ :: r, evPre ?_, by simp; omega, hs, rfl, by rw [show x + 2 * (i : Int) + 2 = x + 2 * ((i + 1 : Nat) : Int) from by omega]; exact hh⟩
      simp only [laws_markEntS.l0, Option.bind_some]
      refine evP (by omega) (Ev.bind hs (evP (by omega) ?_))
      rw [w64 (n := x + 2 * (i : Int) + 1) (by omega) (by omega), w64 (n := x + 2 * (i : Int) + 1 + 1) (by omega) (by omega), nxt i l.length hi (by omega), show x + 2 * (i : Int) + 1 + 1 = x + 2 * ((i + 1 : Nat) : Int) from by omega]
      refine evC hr ?_
      rw [e1, take_set_at _ _ _ (by simp; omega), List.take_set_of_le (Nat.le_refl i), List.append_assoc]
      rfl)
  obtain ⟨r, hr, hl, hh⟩ := key l rfl
  exact ⟨r, by simpa [laws_markEntS.f] using hr, by omega, by simpa using hh⟩
theorem markAttrS (l : List S87) (x : Int) (h0 : 1 ≤ x) (h1 : x + 2 * l.length ≤ 4611686018427387904) : ∃ r, Ev (fun k => laws_markAttrS.f k l x) (x + 2 * l.length, r) ∧ r.length = l.length ∧ HeldA x r := by
  have key := down (n := l.length) (P := fun i => ∀ y : List S87, y.length = l.length → ∃ r, Ev (fun k => laws_markAttrS.l0 k y (x + 2 * i) (i : Nat)) (x + 2 * l.length, y.take i ++ r) ∧ i + r.length = l.length ∧ HeldA (x + 2 * i) r) (by
      intro y hy
      refine ⟨[], evPre ?_, by simp, trivial⟩
      simp only [laws_markAttrS.l0]
      refine evN (by omega) (evC (Ev.now _) ?_)
      rw [← hy, List.take_length, List.append_nil]) (by
      intro i hi h y hy
      obtain ⟨s, hs⟩ := mtext (x + 2 * i) (by omega) (by omega)
      obtain ⟨s2, hs2⟩ := mtext (x + 2 * i + 1) (by omega) (by omega)
      obtain ⟨r, hr, hl, hh⟩ := h (((y.set i (⟨s, (rd_T87 y (i : Nat)).f1⟩ : S87)).set i (⟨(rd_T87 (y.set i (⟨s, (rd_T87 y (i : Nat)).f1⟩ : S87)) (i : Nat)).f0, s2⟩ : S87))) (by simp [hy])
      have e1 : (rd_T87 (y.set i (⟨s, (rd_T87 y (i : Nat)).f1⟩ : S87)) (i : Nat)).f0 = s := by rw [rd_T87, getD_at _ _ i (by simpa using (by omega : i < y.length)), List.getElem_set_self]
      refine ⟨⟨s, s2⟩ :: r, evPre ?_, by simp; omega, hs, hs2, by rw [show x + 2 * (i : Int) + 2 = x + 2 * ((i + 1 : Nat) : Int) from by omega]; exact hh⟩
      simp only [laws_markAttrS.l0, Option.bind_some]
      rw [w64 (n := x + 2 * (i : Int) + 1) (by omega) (by omega), w64 (n := x + 2 * (i : Int) + 1 + 1) (by omega) (by omega), nxt i l.length hi (by omega), show x + 2 * (i : Int) + 1 + 1 = x + 2 * ((i + 1 : Nat) : Int) from by omega]
      refine evP (by omega) (Ev.bind hs (evP (by omega) (Ev.bind hs2 (evC hr ?_))))
      rw [e1, take_set_at _ _ _ (by simp; omega), List.take_set_of_le (Nat.le_refl i), List.append_assoc]
      rfl)
  obtain ⟨r, hr, hl, hh⟩ := key l rfl
  exact ⟨r, by simpa [laws_markAttrS.f] using hr, by omega, by simpa using hh⟩

/-- An inode's lists hold the marks from a on. -/
def HeldX (a : Int) (d : List Int) (e : List S91) (t : List S87) : Prop := d = marks d.length a ∧ HeldE (a + d.length) e ∧ HeldA (a + d.length + 2 * e.length) t
def inW (d : List Int) (e : List S91) (t : List S87) : Nat := d.length + 2 * e.length + 2 * t.length
theorem inW_of {d d' : List Int} {e e' : List S91} {t t' : List S87} (h1 : d'.length = d.length) (h2 : e'.length = e.length) (h3 : t'.length = t.length) : inW d' e' t' = inW d e t := by
  unfold inW; omega
end Go.Proofs.YtkfcmpalbhmmaaaDoor.Q
namespace Go.Proofs.YtkfcmpalbhmmaaaDoor.Q
open Go.RowKit Go.Proofs.YtkfcmpalbhmmaaaDoor.P Go.Proofs.YtkfcmpalbhmmaaaDoorW.PrintWords Go.Proofs.YtkfcmpalbhmmaaaDoorW.PrintLast Go.Proofs.YtkfcmpalbhmmaaaDoorW.PrintMore

def rowW (x : S64) : Nat := 3 + inW x.f3 x.f4 x.f5
def rowsW (l : List S64) : Nat := (l.map rowW).sum
/-- A table's inodes hold the marks from a on. -/
def HeldT : Int → List S64 → Prop
  | _, [] => True
  | a, x :: l => (x.f0 = a ∧ x.f1 = a + 1 ∧ x.f2 = a + 2 ∧ HeldX (a + 3) x.f3 x.f4 x.f5) ∧ HeldT (a + rowW x) l
theorem markRows (l : List S64) : ∀ (x : Int), 1 ≤ x → x + rowsW l ≤ 4611686018427387904 → ∃ r, Ev (fun k => markR k l x) (x + rowsW l, r) ∧ r.length = l.length ∧ rowsW r = rowsW l ∧ HeldT x r := by
  induction l with
  | nil => intro x _ _; exact ⟨[], evC (Ev.now _) (by simp [rowsW]), rfl, rfl, trivial⟩
  | cons y l ih =>
    intro x h0 h1
    have hw : rowsW (y :: l) = rowW y + rowsW l := by simp [rowsW]
    rw [hw] at h1 ⊢
    obtain ⟨r, hr, hl, hW, hh⟩ := ih (x + rowW y) (by omega) (by omega)
    have hy : rowW y = 3 + (y.f3.length + 2 * y.f4.length + 2 * y.f5.length) := rfl
    have g1 := markByteS_ev y.f3 (x + 1 + 1 + 1) (by omega) (by omega)
    obtain ⟨e', g2, l2, v2⟩ := markEntS y.f4 (x + 1 + 1 + 1 + y.f3.length) (by omega) (by omega)
    obtain ⟨t', g3, l3, v3⟩ := markAttrS y.f5 (x + 1 + 1 + 1 + y.f3.length + 2 * y.f4.length) (by omega) (by omega)
    have hz : rowW ⟨x, x + 1, x + 1 + 1, marks y.f3.length (x + 1 + 1 + 1), e', t'⟩ = rowW y := by
      simp only [rowW, inW, marks_length, l2, l3]
    refine ⟨⟨x, x + 1, x + 1 + 1, marks y.f3.length (x + 1 + 1 + 1), e', t'⟩ :: r, ?_, by simp [hl], by simp only [rowsW, List.map_cons, List.sum_cons, hz] at hW ⊢; omega, ⟨rfl, rfl, by dsimp only; omega, ?_⟩, by rw [hz]; exact hh⟩
    · simp only [markR, markOne]
      rw [w64 (n := x + 1) (by omega) (by omega), w64 (n := x + 1 + 1) (by omega) (by omega), w64 (n := x + 1 + 1 + 1) (by omega) (by omega)]
      refine Ev.bind (Ev.bind g1 (Ev.bind g2 (Ev.bind g3 (Ev.now _)))) ?_
      rw [show x + 1 + 1 + 1 + (y.f3.length : Int) + 2 * y.f4.length + 2 * y.f5.length = x + rowW y from by omega]
      refine Ev.bind hr (evC (Ev.now _) ?_)
      rw [show x + ((rowW y + rowsW l : Nat) : Int) = x + rowW y + rowsW l from by omega]
    · rw [show x + 1 + 1 + 1 = x + 3 from by omega] at v2 v3 ⊢
      exact ⟨by rw [marks_length], by rw [marks_length]; exact v2, by rw [marks_length, l2]; exact v3⟩
theorem markTabS (l : List S64) (x : Int) (hl : l.length ≤ 1048576) (h0 : 1 ≤ x) (h1 : x + rowsW l ≤ 4611686018427387904) : ∃ r, Ev (fun k => laws_markInodeS.f k l x) (x + rowsW l, r) ∧ r.length = l.length ∧ rowsW r = rowsW l ∧ HeldT x r := by
  obtain ⟨r, hr, z⟩ := markRows l x h0 h1
  exact ⟨r, by unfold laws_markInodeS.f; exact evP (by omega) hr, z⟩
theorem heldT_at (l : List S64) : ∀ (a : Int) (i : Nat) (h : i < l.length), HeldT a l → (l[i].f0 = a + rowsW (l.take i) ∧ l[i].f1 = a + rowsW (l.take i) + 1 ∧ l[i].f2 = a + rowsW (l.take i) + 2 ∧ HeldX (a + rowsW (l.take i) + 3) l[i].f3 l[i].f4 l[i].f5) := by
  induction l with
  | nil => intro a i h; simp at h
  | cons x l ih =>
    intro a i h hh
    cases i with
    | zero => simpa [rowsW] using hh.1
    | succ i =>
      have := ih (a + rowW x) i (by simpa using h) hh.2
      rw [show a + (rowW x : Int) + rowsW (l.take i) = a + rowsW ((x :: l).take (i + 1)) from by simp [rowsW]; omega] at this
      exact this
theorem rowsW_take (l : List S64) (i : Nat) (h : i < l.length) : rowsW (l.take (i + 1)) = rowsW (l.take i) + rowW l[i] := by
  unfold rowsW; rw [List.take_succ_eq_append_getElem h, List.map_append, List.sum_append]; simp
theorem rowsW_le (l : List S64) (i : Nat) : rowsW (l.take i) ≤ rowsW l := by
  have h : rowsW l = rowsW (l.take i) + rowsW (l.drop i) := by unfold rowsW; rw [← List.sum_append, ← List.map_append, List.take_append_drop]
  omega
end Go.Proofs.YtkfcmpalbhmmaaaDoor.Q
namespace Go.Proofs.YtkfcmpalbhmmaaaDoor.Q
open Go.RowKit Go.Proofs.YtkfcmpalbhmmaaaDoor.P Go.Proofs.YtkfcmpalbhmmaaaDoorW.PrintWords Go.Proofs.YtkfcmpalbhmmaaaDoorW.PrintLast Go.Proofs.YtkfcmpalbhmmaaaDoorW.PrintMore

/-- A table's inodes are small. -/
structure InoA (x : S64) : Prop where
  d : x.f3.length ≤ 1048576
  e : x.f4.length ≤ 1048576
  t : x.f5.length ≤ 1048576
theorem copy_ino (x : S64) (h : InoA x) : impl_copyInode.f x.f0 x.f1 x.f2 x.f3 x.f4 x.f5 = some (x.f0, x.f1, x.f2, x.f3, x.f4, x.f5) := by
  have hd := h.d; have he := h.e; have ht := h.t
  have a : slices_Clone_byte_byte.f x.f3 = some x.f3 := by unfold slices_Clone_byte_byte.f; simp; omega
  have b : slices_Clone_Ent.f x.f4 = some x.f4 := by unfold slices_Clone_Ent.f; simp; omega
  have c : slices_Clone_Attr.f x.f5 = some x.f5 := by unfold slices_Clone_Attr.f; simp; omega
  unfold impl_copyInode.f
  rw [a, Option.bind_some, b, Option.bind_some, c, Option.bind_some]
end Go.Proofs.YtkfcmpalbhmmaaaDoor.Q
namespace Go.Proofs.YtkfcmpalbhmmaaaDoor.Q
open Go.RowKit Go.Proofs.YtkfcmpalbhmmaaaDoor.P Go.Proofs.YtkfcmpalbhmmaaaDoorW.PrintWords Go.Proofs.YtkfcmpalbhmmaaaDoorW.PrintLast Go.Proofs.YtkfcmpalbhmmaaaDoorW.PrintMore

theorem l3_copy (x : S64) (h : InoA x) : spec_l3Copy.f x.f0 x.f1 x.f2 x.f3 x.f4 x.f5 = some (x.f0, x.f1, x.f2, x.f3, x.f4, x.f5) := by
  have hd := h.d; have he := h.e; have ht := h.t
  unfold spec_l3Copy.f
  simp only [Option.bind_some, List.length_nil, List.nil_append]
  rw [if_pos (by omega), if_pos (by omega), if_pos (by omega)]
end Go.Proofs.YtkfcmpalbhmmaaaDoor.Q
namespace Go.Proofs.YtkfcmpalbhmmaaaDoor.Q
open Go.RowKit Go.Proofs.YtkfcmpalbhmmaaaDoor.P Go.Proofs.YtkfcmpalbhmmaaaDoor.Kinds Go.Proofs.YtkfcmpalbhmmaaaDoorW.PrintWords Go.Proofs.YtkfcmpalbhmmaaaDoorW.PrintLast Go.Proofs.YtkfcmpalbhmmaaaDoorW.PrintMore

theorem inoA_map (l : List S115) (h : ∀ x ∈ l, InoS x) : ∀ x ∈ l.map iInode, InoA x := fun x hx => by
  obtain ⟨h3, h4, h5⟩ := small_map l h x hx
  exact ⟨h3, h4, h5⟩
theorem rowsW_map (l : List S115) : rowsW (l.map iInode) ≤ 3 * tabSz l := by
  unfold rowsW tabSz
  induction l with
  | nil => simp
  | cons x l ih =>
    simp only [List.map_cons, List.sum_cons, List.length_cons]
    have : rowW (iInode x) ≤ 3 + 3 * inoSz x := by
      unfold rowW inW inoSz inodeSz iInode
      simp only [List.length_map]
      omega
    omega
end Go.Proofs.YtkfcmpalbhmmaaaDoor.Q
namespace Go.Proofs.YtkfcmpalbhmmaaaDoor.Q
open Go.RowKit Go.Proofs.YtkfcmpalbhmmaaaDoor.P Go.Proofs.YtkfcmpalbhmmaaaDoorW.PrintWords Go.Proofs.YtkfcmpalbhmmaaaDoorW.PrintLast Go.Proofs.YtkfcmpalbhmmaaaDoorW.PrintMore

theorem place_range (ino : Int) (l : List S64) : ∀ i : Nat, placeR ino l i = -1 ∨ ((i : Int) ≤ placeR ino l i ∧ placeR ino l i < i + l.length) := by
  induction l with
  | nil => intro i; exact .inl rfl
  | cons x l ih =>
    intro i
    rw [placeR]
    split
    · right; simp only [List.length_cons]; omega
    · rcases ih (i + 1) with h | h
      · exact .inl h
      · right; simp only [List.length_cons]; omega
theorem spec_at (l : List S64) (nx ino : Int) (hl : l.length ≤ 1048576) : Ev (fun k => spec_l4At.f k l nx ino) (placeR ino l 0) := by
  have key := down (n := l.length) (P := fun i => Ev (fun k => spec_l4At.l0 k ino (i : Nat) l nx) (placeR ino (l.drop i) i)) (by
      apply evPre
      simp only [spec_l4At.l0]
      refine evN (by omega) (evC (Ev.now _) ?_)
      rw [List.drop_length]; rfl) (fun i hi h => by
      have hrd : rd_T64 l (i : Int) = l[i] := getD_at l _ i hi
      apply evPre
      simp only [spec_l4At.l0, hrd]
      rw [nxt i l.length hi (by omega), List.drop_eq_getElem_cons hi, placeR]
      refine evP (by omega) (evP (by omega) ?_)
      by_cases c : l[i].f0 = ino
      · exact evP c (evC (Ev.now _) (by rw [if_pos c]))
      · exact evN c (evC h (by rw [if_neg c])))
  simpa [spec_l4At.f] using key
end Go.Proofs.YtkfcmpalbhmmaaaDoor.Q
namespace Go.Proofs.YtkfcmpalbhmmaaaDoor.Q
open Go.RowKit Go.Proofs.YtkfcmpalbhmmaaaDoor.P Go.Proofs.YtkfcmpalbhmmaaaDoorW.PrintWords Go.Proofs.YtkfcmpalbhmmaaaDoorW.PrintLast Go.Proofs.YtkfcmpalbhmmaaaDoorW.PrintMore

/-- The inode with this number, or an empty one; whether there is one. -/
def inoAt (l : List S64) (ino : Int) : S64 := if placeR ino l 0 < 0 then ⟨0, 0, 0, [], [], []⟩ else rd_T64 l (placeR ino l 0)
def isAt (l : List S64) (ino : Int) : Bool := decide (0 ≤ placeR ino l 0)
theorem inoAt_small (l : List S64) (ino : Int) (hs : ∀ x ∈ l, InoA x) : InoA (inoAt l ino) := by
  unfold inoAt
  split
  · exact ⟨by simp, by simp, by simp⟩
  · rcases place_range ino l 0 with h | h
    · omega
    · obtain ⟨n, hn⟩ : ∃ n : Nat, placeR ino l 0 = n := ⟨(placeR ino l 0).toNat, by omega⟩
      rw [hn] at h ⊢
      have hlt : n < l.length := by omega
      have hrd : rd_T64 l (n : Int) = l[n] := getD_at l _ n hlt
      rw [hrd]
      exact hs _ (List.getElem_mem hlt)
theorem impl_inodeAt (l : List S64) (nx ino : Int) (hl : l.length ≤ 1048576) (hs : ∀ x ∈ l, InoA x) :
    Ev (fun k => impl_InodeAt.f k l nx ino) ((inoAt l ino).f0, (inoAt l ino).f1, (inoAt l ino).f2, (inoAt l ino).f3, (inoAt l ino).f4, (inoAt l ino).f5, isAt l ino) := by
  have hc := inoAt_small l ino hs
  have hr := place_range ino l 0
  unfold impl_InodeAt.f impl_placeOf.f
  refine Ev.bind (evP (by omega) (Ev.now _)) ?_
  by_cases c : placeR ino l 0 < 0
  · refine evP c (evC (Ev.now _) ?_)
    simp only [inoAt, isAt, if_pos c, show decide (0 ≤ placeR ino l 0) = false from decide_eq_false (by omega)]
  · have hi : inoAt l ino = rd_T64 l (placeR ino l 0) := by simp only [inoAt, if_neg c]
    rw [hi] at hc ⊢
    refine evN c (evP (by omega) (evP (by omega) ?_))
    simp only [copy_ino _ hc, Option.bind_some]
    refine evC (Ev.now _) ?_
    simp only [isAt, show decide (0 ≤ placeR ino l 0) = true from decide_eq_true (by omega)]
end Go.Proofs.YtkfcmpalbhmmaaaDoor.Q
namespace Go.Proofs.YtkfcmpalbhmmaaaDoor.Q
open Go.RowKit Go.Proofs.YtkfcmpalbhmmaaaDoor.P Go.Proofs.YtkfcmpalbhmmaaaDoorW.PrintWords Go.Proofs.YtkfcmpalbhmmaaaDoorW.PrintLast Go.Proofs.YtkfcmpalbhmmaaaDoorW.PrintMore

theorem spec_inodeAt (l : List S64) (nx ino : Int) (hl : l.length ≤ 1048576) (hs : ∀ x ∈ l, InoA x) :
    Ev (fun k => spec_InodeAt.f k l nx ino) ((inoAt l ino).f0, (inoAt l ino).f1, (inoAt l ino).f2, (inoAt l ino).f3, (inoAt l ino).f4, (inoAt l ino).f5, isAt l ino) := by
  have hc := inoAt_small l ino hs
  have hr := place_range ino l 0
  unfold spec_InodeAt.f
  refine Ev.bind (spec_at l nx ino hl) ?_
  by_cases c : placeR ino l 0 < 0
  · refine evP c (evC (Ev.now _) ?_)
    simp only [inoAt, isAt, if_pos c, show decide (0 ≤ placeR ino l 0) = false from decide_eq_false (by omega)]
  · have hi : inoAt l ino = rd_T64 l (placeR ino l 0) := by simp only [inoAt, if_neg c]
    rw [hi] at hc ⊢
    refine evN c (evP (by omega) (evP (by omega) ?_))
    simp only [l3_copy _ hc, Option.bind_some]
    refine evC (Ev.now _) ?_
    simp only [isAt, show decide (0 ≤ placeR ino l 0) = true from decide_eq_true (by omega)]
end Go.Proofs.YtkfcmpalbhmmaaaDoor.Q
namespace Go.Proofs.YtkfcmpalbhmmaaaDoor.Q
open Go.RowKit Go.Proofs.YtkfcmpalbhmmaaaDoor.P Go.Proofs.YtkfcmpalbhmmaaaDoorW.PrintWords Go.Proofs.YtkfcmpalbhmmaaaDoorW.PrintLast Go.Proofs.YtkfcmpalbhmmaaaDoorW.PrintMore

def entOf (name : ByteArray) : List S91 → Int
  | [] => 0
  | e :: l => if e.f0.toList = name.toList then e.f1 else entOf name l
theorem spec_entOf (a b c : Int) (d : List Int) (e : List S91) (t : List S87) (name : ByteArray) (he : e.length ≤ 9223372036854775807) : Ev (fun k => spec_EntOf.f k a b c d e t name) (entOf name e) := by
  unfold spec_EntOf.f
  refine ev_fold (fun k i => spec_EntOf.l0 k name i a b c d e t) e (entOf name) ?_ (fun i hi h => ?_)
  · apply evPre
    simp only [spec_EntOf.l0]
    exact evN (by omega) (Ev.now _)
  · apply evPre
    simp only [spec_EntOf.l0, rd_T91, getD_at e _ i hi, entOf]
    refine evP (by omega) (evP (by omega) ?_)
    rw [nxt i e.length hi he]
    exact evI (fun _ => Ev.now _) (fun _ => h)
theorem impl_entOf (a b c : Int) (d : List Int) (e : List S91) (t : List S87) (name : ByteArray) (he : e.length ≤ 9223372036854775807) : Ev (fun k => impl_EntOf.f k a b c d e t name) (entOf name e) := by
  unfold impl_EntOf.f
  refine ev_fold (fun k i => impl_EntOf.l0 k name e (e.length : Int) i) e (entOf name) ?_ (fun i hi h => ?_)
  · apply evPre
    simp only [impl_EntOf.l0]
    exact evN (by omega) (Ev.now _)
  · apply evPre
    simp only [impl_EntOf.l0, rd_T91, getD_at e _ i hi, entOf]
    refine evP (by omega) (evP (by omega) (evP (by omega) ?_))
    rw [nxt i e.length hi he]
    exact evI (fun _ => Ev.now _) (fun _ => h)
end Go.Proofs.YtkfcmpalbhmmaaaDoor.Q
namespace Go.Proofs.YtkfcmpalbhmmaaaDoor.Q
open Go.RowKit Go.Proofs.YtkfcmpalbhmmaaaDoor.P Go.Proofs.YtkfcmpalbhmmaaaDoorW.PrintWords Go.Proofs.YtkfcmpalbhmmaaaDoorW.PrintLast Go.Proofs.YtkfcmpalbhmmaaaDoorW.PrintMore

theorem nxtJ (i : Nat) (n : Nat) (hi : i < n) (hn : n ≤ 9223372036854775807) : wrap64 ((i : Int) + 1) = ((i + 1 : Nat) : Int) := by
  rw [w64 (by omega) (by omega)]; omega
theorem downJ {n : Nat} {P : Nat → Prop} (h1 : P n) (h2 : ∀ i, i < n → P (i + 1) → P i) : P 0 := by
  have key : ∀ m i : Nat, n - i = m → i ≤ n → P i := by
    intro m
    induction m with
    | zero => intro i hm hi; obtain rfl : i = n := by omega
              exact h1
    | succ m ih => intro i hm hi; exact h2 i (by omega) (ih (i + 1) (by omega) (by omega))
  exact key n 0 (by omega) (by omega)
theorem rdS (l : List ByteArray) (i : Nat) (h : i < l.length) : rdOf ByteArray.empty l (i : Int) = l[i] := getD_at l _ i h
def strSz (l : List ByteArray) : Nat := (l.map ByteArray.size).sum
theorem strSz_drop (l : List ByteArray) (i : Nat) (h : i < l.length) : strSz (l.drop i) = l[i].size + strSz (l.drop (i + 1)) := by
  unfold strSz; rw [List.drop_eq_getElem_cons h, List.map_cons, List.sum_cons]
theorem strSz_mem (l : List ByteArray) : ∀ x ∈ l, x.size ≤ strSz l := by
  induction l with
  | nil => intro x hx; cases hx
  | cons y l ih =>
    intro x hx
    unfold strSz at ih ⊢
    rw [List.map_cons, List.sum_cons]
    rcases List.mem_cons.1 hx with rfl | hx
    · omega
    · have := ih x hx; omega
theorem badR_ev (l : List ByteArray) (hs : ∀ x ∈ l, x.size ≤ 1048576) : ∀ i : Nat, ∃ r, Ev (fun k => badR k l i) r ∧ (decide (0 ≤ r)) = !(l.all nameOk) := by
  induction l with
  | nil => intro i; exact ⟨-1, Ev.now _, rfl⟩
  | cons x l ih =>
    intro i
    have hx := impl_name x (by have := hs x (List.mem_cons_self ..); omega)
    by_cases c : nameOk x = true
    · obtain ⟨r, h1, h2⟩ := ih (fun y hy => hs y (List.mem_cons_of_mem _ hy)) (i + 1)
      refine ⟨r, ?_, by rw [h2, List.all_cons, c, Bool.true_and]⟩
      simp only [badR]
      exact Ev.bind hx (evP c h1)
    · refine ⟨(i : Int), ?_, by simp [c]⟩
      simp only [badR]
      exact Ev.bind hx (evN c (Ev.now _))
def goodPath (l : List ByteArray) : Bool := l.all nameOk && decide (l.length ≤ 30)
theorem impl_names (l : List ByteArray) (hs : ∀ x ∈ l, x.size ≤ 1048576) : Ev (fun k => impl_namesOk.f k l) (goodPath l) := by
  unfold impl_namesOk.f goodPath
  by_cases c : l.length ≤ 30
  · obtain ⟨r, h1, h2⟩ := badR_ev l hs 0
    refine evP c (Ev.bind h1 (evC (Ev.now _) ?_))
    rw [h2]; simp [c]
  · exact evN c (evC (Ev.now _) (by simp [c]))
end Go.Proofs.YtkfcmpalbhmmaaaDoor.Q
namespace Go.Proofs.YtkfcmpalbhmmaaaDoor.Q
open Go.RowKit Go.Proofs.YtkfcmpalbhmmaaaDoor.P Go.Proofs.YtkfcmpalbhmmaaaDoorW.PrintWords Go.Proofs.YtkfcmpalbhmmaaaDoorW.PrintLast Go.Proofs.YtkfcmpalbhmmaaaDoorW.PrintMore

def consPre (q : List UInt8) : List (List UInt8) → List (List UInt8)
  | [] => [q]
  | p :: ps => (q ++ p) :: ps
/-- The parts between slashes. -/
def parts : List UInt8 → List (List UInt8)
  | [] => [[]]
  | b :: l => if b = 47 then [] :: parts l else consPre [b] (parts l)
theorem parts_ne (l : List UInt8) : parts l ≠ [] := by
  cases l with
  | nil => simp [parts]
  | cons b l =>
    rw [parts]
    split
    · simp
    · cases parts l <;> simp [consPre]
theorem consPre_nil (X : List (List UInt8)) (h : X ≠ []) : consPre [] X = X := by
  cases X with
  | nil => exact absurd rfl h
  | cons p ps => rfl
theorem consPre_app (q r : List UInt8) (X : List (List UInt8)) : consPre q (consPre r X) = consPre (q ++ r) X := by
  cases X <;> simp [consPre]
theorem splitK_ne (k : Nat) (b : UInt8) (l : List UInt8) (h : b ≠ 47) : Lib.splitK [47] 0 k (b :: l) = consPre [b] (Lib.splitK [47] 0 k l) := by
  cases k with
  | zero => rfl
  | succ k =>
    have hp : ([47] : List UInt8).isPrefixOf (b :: l) = false := by simp [List.isPrefixOf, Ne.symm h]
    have hix : Lib.index (b :: l) [47] = if Lib.index l [47] == -1 then -1 else Lib.index l [47] + 1 := by rw [Lib.index, hp]; simp
    by_cases hm : Lib.index l [47] = -1
    · rw [Lib.splitK, Lib.splitK, hix, hm]; rfl
    · have hge := Lib.index_ge l [47]
      obtain ⟨j, hj⟩ : ∃ j : Nat, Lib.index l [47] = j := ⟨(Lib.index l [47]).toNat, by omega⟩
      have hix' : Lib.index (b :: l) [47] = ((j + 1 : Nat) : Int) := by rw [hix, if_neg (fun e => hm (beq_iff_eq.1 e)), hj]; omega
      have n1 : ¬ (((j + 1 : Nat) : Int) == -1) = true := fun e => by have := beq_iff_eq.1 e; omega
      have n2 : ¬ ((j : Int) == -1) = true := fun e => by have := beq_iff_eq.1 e; omega
      rw [Lib.splitK, Lib.splitK, hix', hj, if_neg n1, if_neg n2, Int.toNat_natCast, Int.toNat_natCast]
      simp [consPre]
theorem splitK_eq (k : Nat) (l : List UInt8) : Lib.splitK [47] 0 (k + 1) (47 :: l) = [] :: Lib.splitK [47] 0 k l := by
  have hix : Lib.index (47 :: l) [47] = 0 := by rw [Lib.index]; simp [List.isPrefixOf]
  rw [Lib.splitK, hix, if_neg (by decide)]
  simp
theorem splitK_parts (l : List UInt8) : Lib.splitK [47] 0 (Lib.count l [47]) l = parts l := by
  induction l with
  | nil => rw [Lib.count_miss (by simp [Lib.index])]; rfl
  | cons b l ih =>
    rw [parts]
    by_cases h : b = 47
    · subst h
      rw [if_pos rfl, Lib.count_cons_eq, Nat.add_comm, splitK_eq, ih]
    · rw [if_neg h, Lib.count_cons_ne b 47 l h, splitK_ne _ _ _ h, ih]
def mkB (l : List UInt8) : ByteArray := ⟨l.toArray⟩
theorem mkB_data (s : ByteArray) : mkB s.data.toList = s := by simp [mkB]
theorem mkB_size (l : List UInt8) : (mkB l).size = l.length := by rw [← data_length]; simp [mkB]
theorem data_mkB (l : List UInt8) : (mkB l).data.toList = l := by simp [mkB]
theorem splitB_parts (s : ByteArray) : Lib.splitB ⟨#[47]⟩ 0 (Lib.countB s ⟨#[47]⟩) s = (parts s.data.toList).map mkB := by
  have h := Lib.splitB_data ⟨#[47]⟩ 0 (Lib.countB s ⟨#[47]⟩) s
  have hc : Lib.countB s ⟨#[47]⟩ = Lib.count s.data.toList [47] := rfl
  rw [show (⟨#[47]⟩ : ByteArray).data.toList = [47] from rfl, hc, splitK_parts] at h
  rw [hc, ← h, List.map_map]
  conv => lhs; rw [← List.map_id (Lib.splitB _ _ _ _)]
  apply List.map_congr_left
  intro x _
  exact (mkB_data x).symm
theorem parts_sum (l : List UInt8) : ∀ p ∈ parts l, p.length ≤ l.length := by
  induction l with
  | nil => intro p hp; simp [parts] at hp; subst hp; simp
  | cons b l ih =>
    intro p hp
    rw [parts] at hp
    split at hp
    · rcases List.mem_cons.1 hp with rfl | hp
      · simp
      · have := ih p hp; simp; omega
    · cases hX : parts l with
      | nil => exact absurd hX (parts_ne l)
      | cons q X =>
        rw [hX] at hp ih
        rcases List.mem_cons.1 hp with rfl | hp
        · have := ih q (List.mem_cons_self ..); simp; omega
        · have := ih p (List.mem_cons_of_mem _ hp); simp; omega
theorem parts_len (l : List UInt8) : (parts l).length ≤ l.length + 1 := by
  induction l with
  | nil => simp [parts]
  | cons b l ih =>
    rw [parts]
    split
    · simp; omega
    · cases hX : parts l with
      | nil => simp [consPre]
      | cons q X => rw [hX] at ih; simp [consPre] at ih ⊢; omega
/-- The names of a path, and whether it is one. -/
def splitP (s : ByteArray) : List ByteArray × Bool :=
  if s.toList = ([47] : List UInt8) then ([], true) else
  match (parts s.data.toList).map mkB with
  | [] => ([], false)
  | x :: l => if x.toList = [] ∧ l ≠ [] ∧ goodPath l = true then (l, true) else ([], false)
theorem impl_split (s : ByteArray) (hs : s.size ≤ 1048576) : Ev (fun k => impl_SplitPath.f k s) (splitP s) := by
  unfold impl_SplitPath.f splitP
  refine evI (fun _ => Ev.now _) (fun _ => ?_)
  have h0 : strings_Split.f s ⟨#[47]⟩ = some ((parts s.data.toList).map mkB) := by
    unfold strings_Split.f
    rw [if_pos ⟨by omega, by decide⟩, splitB_parts]
  simp only [h0, Option.bind_some]
  have hps := parts_sum s.data.toList
  have hsz : s.data.toList.length = s.size := data_length s
  have hpl := parts_len s.data.toList
  cases hX : parts s.data.toList with
  | nil => exact absurd hX (parts_ne _)
  | cons p ps =>
    rw [hX] at hps hpl
    rw [List.map_cons]
    refine evP (by rw [List.length_cons]; omega) ?_
    have hr : rdOf ByteArray.empty (mkB p :: ps.map mkB) 0 = mkB p := rfl
    simp only [hr]
    by_cases c : (mkB p).toList = []
    · refine evP c ?_
      cases hq : ps with
      | nil => exact evP (by simp) (evC (Ev.now _) (by simp))
      | cons q qs =>
        rw [← hq]
        have hne : ps.map mkB ≠ [] := by rw [hq]; simp
        have hl : 0 < ps.length := by rw [hq]; simp
        refine evN (by simp; omega) (evP (by simp; omega) ?_)
        have hn := impl_names (ps.map mkB) (by
          intro x hx
          obtain ⟨y, hy, rfl⟩ := List.mem_map.1 hx
          rw [mkB_size]
          have := hps y (List.mem_cons_of_mem _ hy)
          omega)
        refine Ev.bind hn ?_
        by_cases g : goodPath (ps.map mkB) = true
        · exact evP g (evC (Ev.now _) (by rw [if_pos ⟨c, hne, g⟩]; rfl))
        · exact evN g (evC (Ev.now _) (by rw [if_neg (fun h => g h.2.2)]))
    · exact evN c (evC (Ev.now _) (by rw [if_neg (fun h => c h.1)]))
/-- Names that are taken one by one. -/
def proc : List ByteArray → List (List UInt8) → Option (List ByteArray)
  | out, [] => some out
  | out, p :: ps => if nameOk (mkB p) = true then (if out.length = 30 then none else proc (out ++ [mkB p]) ps) else none
theorem proc_eq (ps : List (List UInt8)) : ∀ out : List ByteArray, out.length ≤ 30 → proc out ps = if (ps.map mkB).all nameOk = true ∧ out.length + ps.length ≤ 30 then some (out ++ ps.map mkB) else none := by
  induction ps with
  | nil => intro out h; simp [proc, h]
  | cons p ps ih =>
    intro out h
    rw [proc]
    by_cases c : nameOk (mkB p) = true
    · rw [if_pos c]
      by_cases d : out.length = 30
      · rw [if_pos d, if_neg (by simp; omega)]
      · rw [if_neg d, ih _ (by simp; omega)]
        simp only [List.map_cons, List.all_cons, c, Bool.true_and, List.length_append, List.length_cons, List.length_nil, List.append_assoc, List.singleton_append]
        congr 1
        simp only [Nat.zero_add, Nat.add_assoc, Nat.add_comm 1]
    · rw [if_neg c, if_neg (by simp [c])]
def finS (s : ByteArray) : Option (List ByteArray) → List ByteArray × Bool
  | none => ([], false)
  | some out => if s.data.toList.head? = some 47 then (out, true) else ([], false)
theorem bt_data (s : ByteArray) (i : Nat) (h : i < s.size) : bt s (i : Int) = ((s.data.toList[i]'(by rw [data_length]; exact h)).toNat : Int) := by
  rw [← bt_at s (i : Int) (by rw [Int.toNat_natCast]; exact h)]
  simp only [Int.toNat_natCast]
  rfl
theorem u47 (b : UInt8) : ((b.toNat : Int) = 47) ↔ b = 47 := by
  constructor
  · intro h
    have : b.toNat = 47 := by omega
    exact UInt8.toNat_inj.1 (this.trans rfl)
  · rintro rfl; rfl
theorem spec_split_end (s : ByteArray) (out : List ByteArray) (i f : Int) (k : Nat) (h : ¬ i ≤ (s.size : Int)) : spec_SplitPath.l0 (k + 1) s out f i = some (finS s (some out)) := by
  simp only [spec_SplitPath.l0]
  rw [if_neg h]
  have hsz : s.data.toList.length = s.size := data_length s
  cases hd : s.data.toList with
  | nil =>
    rw [hd] at hsz
    rw [if_pos (by simp at hsz; omega)]
    simp [finS, hd]
  | cons b l =>
    have hl : 0 < s.size := by rw [← hsz, hd]; simp
    rw [if_neg (by omega), if_pos (by omega)]
    have hb := bt_data s 0 hl
    simp only [hd, List.getElem_cons_zero] at hb
    have hb' : bt s 0 = (b.toNat : Int) := hb
    rw [hb']
    by_cases c : b = 47
    · rw [if_pos ((u47 b).2 c)]; simp [finS, hd, c]
    · rw [if_neg (fun h => c ((u47 b).1 h))]; simp [finS, hd, c]
theorem drop_at (s : ByteArray) (i : Nat) (h : i < s.size) : s.data.toList.drop i = (s.data.toList[i]'(by rw [data_length]; exact h)) :: s.data.toList.drop (i + 1) := List.drop_eq_getElem_cons _
theorem spec_split_loop (s : ByteArray) (hs : s.size ≤ 1048576) : ∀ (n i f : Nat) (out : List ByteArray), 1 ≤ i → i ≤ s.size → f ≤ i → s.size - i = n → out.length ≤ 30 →
    Ev (fun k => spec_SplitPath.l0 k s out f i) (finS s (proc out (consPre ((s.data.toList.drop f).take (i - f)) (parts (s.data.toList.drop i))))) := by
  have hsz : s.data.toList.length = s.size := data_length s
  intro n
  induction n with
  | zero =>
    intro i f out h1 hi hf hn ho
    obtain rfl : i = s.size := by omega
    have hx : (s.extract f s.size) = mkB ((s.data.toList.drop f).take (s.size - f)) := by
      rw [← mkB_data (s.extract f s.size)]
      congr 1
      rw [Lib.extract_data]
    have hsl : (s.extract f s.size).size ≤ 9223372036854775807 := by rw [ByteArray.size_extract]; omega
    rw [List.drop_eq_nil_of_le (by omega : s.data.toList.length ≤ s.size)]
    have hnm := spec_name (s.extract f s.size) hsl
    apply evPre
    simp only [spec_SplitPath.l0]
    refine evP (by omega) (evN (by omega) ?_)
    apply evPre
    simp only [spec_SplitPath.j1]
    refine evN (by simp) (evP (by omega) (evP (by omega) (evP (by omega) (evP (by omega) ?_))))
    simp only [Int.toNat_natCast]
    refine Ev.bind hnm ?_
    rw [hx]
    simp only [parts, consPre, List.append_nil, proc]
    by_cases c : nameOk (mkB ((s.data.toList.drop f).take (s.size - f))) = true
    · refine evP c ?_
      rw [if_pos c]
      by_cases d : out.length = 30
      · rw [if_pos d]
        exact evP (by omega) (Ev.now _)
      · rw [if_neg d]
        refine evN (by omega) (evP (by omega) ?_)
        apply evPre
        rw [w64 (by omega) (by omega)]
        simp only [spec_split_end s _ _ _ _ (show ¬ ((s.size : Int) + 1) ≤ (s.size : Int) by omega)]
        exact Ev.now _
    · rw [if_neg c]
      exact evN c (Ev.now _)
  | succ n ih =>
    intro i f out h1 hi hf hn ho
    have hlt : i < s.size := by omega
    have hb := bt_data s i hlt
    have hd := drop_at s i hlt
    generalize hB : (s.data.toList[i]'(by rw [data_length]; exact hlt)) = B at hb hd
    have hnx : wrap64 ((i : Int) + 1) = ((i + 1 : Nat) : Int) := by rw [w64 (by omega) (by omega)]; omega
    have htk : (s.data.toList.drop f).take (i + 1 - f) = (s.data.toList.drop f).take (i - f) ++ [B] := by
      rw [show i + 1 - f = (i - f) + 1 by omega, List.take_succ_eq_append_getElem (by rw [List.length_drop]; omega)]
      congr 2
      rw [List.getElem_drop]
      simp only [show f + (i - f) = i by omega]
      exact hB
    apply evPre
    simp only [spec_SplitPath.l0]
    refine evP (by omega) (evP (by omega) (evP (by omega) ?_))
    apply evPre
    simp only [spec_SplitPath.j1]
    rw [hb, hnx]
    by_cases c : B = 47
    · have hx : (s.extract f i) = mkB ((s.data.toList.drop f).take (i - f)) := by
        rw [← mkB_data (s.extract f i)]
        congr 1
        rw [Lib.extract_data]
      have hsl : (s.extract f i).size ≤ 9223372036854775807 := by rw [ByteArray.size_extract]; omega
      have hnm := spec_name (s.extract f i) hsl
      rw [hd, parts, if_pos c]
      refine evN (by simp [(u47 B).2 c]) (evP (by omega) (evP (by omega) (evP (by omega) (evP (by omega) ?_))))
      simp only [Int.toNat_natCast]
      refine Ev.bind hnm ?_
      rw [hx]
      simp only [consPre, List.append_nil, proc]
      by_cases cn : nameOk (mkB ((s.data.toList.drop f).take (i - f))) = true
      · refine evP cn ?_
        rw [if_pos cn]
        by_cases d : out.length = 30
        · rw [if_pos d]
          exact evP (by omega) (Ev.now _)
        · rw [if_neg d]
          refine evN (by omega) (evP (by omega) ?_)
          have := ih (i + 1) (i + 1) (out ++ [mkB ((s.data.toList.drop f).take (i - f))]) (by omega) (by omega) (Nat.le_refl _) (by omega) (by simp; omega)
          rw [Nat.sub_self, List.take_zero, consPre_nil _ (parts_ne _)] at this
          exact this
      · rw [if_neg cn]
        exact evN cn (Ev.now _)
    · rw [hd, parts, if_neg c, consPre_app, ← htk]
      refine evP (by simpa using fun h => c ((u47 B).1 h)) ?_
      exact ih (i + 1) f out (by omega) (by omega) (by omega) (by omega) ho
theorem spec_split (s : ByteArray) (hs : s.size ≤ 1048576) : Ev (fun k => spec_SplitPath.f k s) (splitP s) := by
  have hsz : s.data.toList.length = s.size := data_length s
  unfold spec_SplitPath.f splitP
  simp only [Option.bind_some]
  refine evI (fun _ => Ev.now _) (fun _ => ?_)
  cases hd : s.data.toList with
  | nil =>
    rw [hd] at hsz
    have h0 : s.size = 0 := by simpa using hsz.symm
    apply evPre
    simp only [spec_SplitPath.l0]
    refine evP (by omega) (evN (by omega) ?_)
    apply evPre
    simp only [spec_SplitPath.j1]
    refine evN (by simp) (evN (by omega) ?_)
    apply evPre
    simp only [spec_split_end s _ _ _ _ (show ¬ (wrap64 (0 + 1)) ≤ (s.size : Int) by rw [h0, w64 (by omega) (by omega)]; omega)]
    exact evC (Ev.now _) (by simp [finS, hd, parts])
  | cons b l =>
    have hl : 0 < s.size := by rw [← hsz, hd]; simp
    have hb := bt_data s 0 hl
    simp only [hd, List.getElem_cons_zero] at hb
    have hb' : bt s 0 = (b.toNat : Int) := hb
    apply evPre
    simp only [spec_SplitPath.l0]
    refine evP (by omega) (evP (by omega) (evP (by omega) ?_))
    apply evPre
    simp only [spec_SplitPath.j1]
    rw [hb', show wrap64 (0 + 1) = ((1 : Nat) : Int) from w64 (by omega) (by omega)]
    by_cases c : b = 47
    · refine evN (by simp [(u47 b).2 c]) (evN (by omega) ?_)
      have := spec_split_loop s hs (s.size - 1) 1 1 [] (by omega) (by omega) (Nat.le_refl _) rfl (by simp)
      refine evC this ?_
      rw [Nat.sub_self, List.take_zero, consPre_nil _ (parts_ne _), proc_eq _ _ (by simp), hd, parts, if_pos c]
      simp only [List.drop_succ_cons, List.drop_zero, List.map_cons, List.length_nil, Nat.zero_add, List.nil_append]
      have hne : (parts l).map mkB ≠ [] := by
        intro h; exact parts_ne l (List.map_eq_nil_iff.1 h)
      have he : (mkB []).toList = [] := by rw [toList_data, data_mkB]
      by_cases g : goodPath ((parts l).map mkB) = true
      · have g' := g
        simp only [goodPath, List.length_map, Bool.and_eq_true, decide_eq_true_eq] at g'
        rw [if_pos g', if_pos ⟨he, hne, g⟩]
        simp [finS, hd, c]
      · have g' : ¬ (((parts l).map mkB).all nameOk = true ∧ (parts l).length ≤ 30) := by
          intro h; apply g; simp only [goodPath, List.length_map, Bool.and_eq_true, decide_eq_true_eq]; exact h
        rw [if_neg g', if_neg (fun h => g h.2.2)]
        rfl
    · refine evP (by simpa using fun h => c ((u47 b).1 h)) ?_
      have := spec_split_loop s hs (s.size - 1) 1 0 [] (by omega) (by omega) (by omega) rfl (by simp)
      refine evC this ?_
      have hf : ∀ x, finS s x = ([], false) := by
        intro x
        cases x with
        | none => rfl
        | some out => simp [finS, hd, c]
      rw [hf, parts, if_neg c]
      cases hX : parts l with
      | nil => exact absurd hX (parts_ne l)
      | cons p ps =>
        simp only [consPre, List.map_cons]
        rw [if_neg]
        intro h
        have := h.1
        rw [toList_data, data_mkB] at this
        simp at this
end Go.Proofs.YtkfcmpalbhmmaaaDoor.Q
namespace Go.Proofs.YtkfcmpalbhmmaaaDoor.Q
open Go.RowKit Go.Proofs.YtkfcmpalbhmmaaaDoor.P Go.Proofs.YtkfcmpalbhmmaaaDoorW.PrintWords Go.Proofs.YtkfcmpalbhmmaaaDoorW.PrintLast Go.Proofs.YtkfcmpalbhmmaaaDoorW.PrintMore

theorem app_nil (b : ByteArray) : b ++ (⟨#[]⟩ : ByteArray) = b := ByteArray.ext (by rw [ByteArray.data_append]; simp)
theorem nil_app (b : ByteArray) : (⟨#[]⟩ : ByteArray) ++ b = b := ByteArray.ext (by rw [ByteArray.data_append]; simp)
/-- The path of these names. -/
def pathB : List ByteArray → ByteArray
  | [] => ⟨#[]⟩
  | x :: l => (⟨#[47]⟩ ++ x) ++ pathB l
theorem pathB_size (l : List ByteArray) : (pathB l).size = l.length + strSz l := by
  induction l with
  | nil => rfl
  | cons x l ih =>
    rw [pathB, ByteArray.size_append, ByteArray.size_append, ih]
    have : (⟨#[47]⟩ : ByteArray).size = 1 := rfl
    simp only [strSz, List.map_cons, List.sum_cons, List.length_cons] at *
    omega
theorem map_sum_le (l : List (List UInt8)) : strSz (l.map mkB) = (l.map List.length).sum := by
  unfold strSz
  rw [List.map_map]
  exact congrArg List.sum (List.map_congr_left fun x _ => mkB_size x)
theorem parts_tot (l : List UInt8) : ((parts l).map List.length).sum ≤ l.length := by
  induction l with
  | nil => simp [parts]
  | cons b l ih =>
    rw [parts]
    split
    · simp; omega
    · cases hX : parts l with
      | nil => exact absurd hX (parts_ne l)
      | cons q X => rw [hX] at ih; simp [consPre] at ih ⊢; omega
/-- The names of a path: right ones, not more than 30, in all not more than the path. -/
theorem splitP_good (s : ByteArray) (h : (splitP s).2 = true) : goodPath (splitP s).1 = true := by
  unfold splitP at h ⊢
  split
  · rfl
  · rename_i c0
    rw [if_neg c0] at h
    split
    · rename_i hX; rw [hX] at h; simp at h
    · rename_i x l hX
      rw [hX] at h
      simp only at h ⊢
      split
      · rename_i c; exact c.2.2
      · rename_i c; rw [if_neg c] at h; simp at h
theorem splitP_false (s : ByteArray) (h : (splitP s).2 = false) : (splitP s).1 = [] := by
  unfold splitP at h ⊢
  split
  · rfl
  · rename_i c0
    rw [if_neg c0] at h
    split
    · rfl
    · rename_i x l hX
      rw [hX] at h
      simp only at h ⊢
      split
      · rename_i c; rw [if_pos c] at h; simp at h
      · rfl
theorem splitP_size (s : ByteArray) : (splitP s).1.length ≤ s.size ∧ strSz (splitP s).1 ≤ s.size := by
  have h1 := parts_len s.data.toList
  have h2 := parts_tot s.data.toList
  rw [data_length] at h1 h2
  unfold splitP
  split
  · simp [strSz]
  · split
    · simp [strSz]
    · rename_i x l hX
      split
      · cases hP : parts s.data.toList with
        | nil => exact absurd hP (parts_ne _)
        | cons p ps =>
          rw [hP] at hX h1 h2
          simp only [List.map_cons, List.cons.injEq] at hX
          obtain ⟨_, rfl⟩ := hX
          simp only [List.length_map, map_sum_le]
          simp only [List.map_cons, List.sum_cons, List.length_cons] at h1 h2
          omega
      · simp [strSz]
theorem strSz_take (l : List ByteArray) (n : Nat) : strSz (l.take n) ≤ strSz l := by
  induction l generalizing n with
  | nil => simp
  | cons x l ih =>
    cases n with
    | zero => simp [strSz]
    | succ n => have := ih n; simp [strSz] at this ⊢; omega
/-- The path of a parent. -/
def joinQ (l : List ByteArray) : ByteArray := if l.length = 0 then ⟨#[47]⟩ else if goodPath l = true then pathB l else ⟨#[]⟩
theorem parts_pre (q r : List UInt8) (h : ∀ b ∈ q, b ≠ 47) : parts (q ++ r) = consPre q (parts r) := by
  induction q with
  | nil => rw [List.nil_append, consPre_nil _ (parts_ne _)]
  | cons b q ih =>
    rw [List.cons_append, parts, if_neg (h b (List.mem_cons_self ..)), ih (fun x hx => h x (List.mem_cons_of_mem _ hx)), consPre_app]
    rfl
theorem name_no (s : ByteArray) (h : nameOk s = true) : (∀ b ∈ s.data.toList, b ≠ 47) ∧ 1 ≤ s.size ∧ s.size ≤ 14 := by
  unfold nameOk nameEnd at h
  simp only [Bool.and_eq_true, decide_eq_true_eq] at h
  refine ⟨fun b hb e => ?_, h.2.1.1⟩
  have := List.all_eq_true.1 h.1 (b.toNat : Int) (by unfold bytesOf; exact List.mem_map.2 ⟨b, hb, rfl⟩)
  subst e
  exact absurd this (by decide)
theorem pathB_data (x : ByteArray) (l : List ByteArray) : (pathB (x :: l)).data.toList = 47 :: (x.data.toList ++ (pathB l).data.toList) := by
  simp [pathB, ByteArray.data_append]
theorem parts_path (l : List ByteArray) (h : l.all nameOk = true) : parts (pathB l).data.toList = [] :: l.map (·.data.toList) := by
  induction l with
  | nil => rfl
  | cons x l ih =>
    rw [List.all_cons, Bool.and_eq_true] at h
    rw [pathB_data, parts, if_pos rfl, parts_pre _ _ (name_no x h.1).1, ih h.2]
    simp [consPre]
theorem map_mk (l : List ByteArray) : (l.map (·.data.toList)).map mkB = l := by
  rw [List.map_map]
  conv => rhs; rw [← List.map_id l]
  exact List.map_congr_left fun x _ => mkB_data x
theorem splitP_root : splitP ⟨#[47]⟩ = ([], true) := by
  unfold splitP
  rw [if_pos (by rw [toList_data])]
theorem path_ne_root (l : List ByteArray) (hg : goodPath l = true) : (pathB l).toList ≠ ([47] : List UInt8) := by
  cases l with
  | nil => rw [toList_data]; simp [pathB]
  | cons x l =>
    rw [toList_data, pathB_data]
    have hx : nameOk x = true := by
      unfold goodPath at hg
      simp only [List.all_cons, Bool.and_eq_true] at hg
      exact hg.1.1
    have := (name_no x hx).2.1
    intro e
    simp only [List.cons.injEq, List.append_eq_nil_iff, true_and] at e
    rw [← data_length, e.1] at this
    simp at this
theorem splitP_path (l : List ByteArray) (hl : l ≠ []) (hg : goodPath l = true) : splitP (pathB l) = (l, true) := by
  have ha : l.all nameOk = true := by unfold goodPath at hg; simp only [Bool.and_eq_true] at hg; exact hg.1
  unfold splitP
  rw [if_neg (path_ne_root l hg), parts_path l ha, List.map_cons, map_mk]
  simp only
  rw [if_pos ⟨by rw [toList_data, data_mkB], hl, hg⟩]
theorem splitP_join (l : List ByteArray) (hg : goodPath l = true) : splitP (joinQ l) = (l, true) := by
  unfold joinQ
  by_cases c : l.length = 0
  · rw [if_pos c, splitP_root, List.eq_nil_of_length_eq_zero c]
  · rw [if_neg c, if_pos hg, splitP_path l (fun h => c (by rw [h]; rfl)) hg]
def glue : List (List UInt8) → List UInt8
  | [] => []
  | [p] => p
  | p :: q :: ps => p ++ 47 :: glue (q :: ps)
theorem glue_pre (q : List UInt8) (X : List (List UInt8)) (h : X ≠ []) : glue (consPre q X) = q ++ glue X := by
  match X, h with
  | [p], _ => rfl
  | p :: r :: ps, _ => simp [consPre, glue]
theorem glue_parts (l : List UInt8) : glue (parts l) = l := by
  induction l with
  | nil => rfl
  | cons b l ih =>
    rw [parts]
    split
    · rename_i h
      have hne := parts_ne l
      cases hX : parts l with
      | nil => exact absurd hX hne
      | cons p ps => rw [hX] at ih; rw [glue, ih, List.nil_append, h]
    · rw [glue_pre _ _ (parts_ne l), ih]; rfl
theorem glue_path (ps : List (List UInt8)) (h : ps ≠ []) : (pathB (ps.map mkB)).data.toList = 47 :: glue ps := by
  induction ps with
  | nil => exact absurd rfl h
  | cons p ps ih =>
    rw [List.map_cons, pathB_data, data_mkB]
    cases ps with
    | nil => simp [pathB, glue]
    | cons q ps => rw [ih (by simp), glue]
/-- A string that is a path is the path of its names. -/
theorem path_split (s : ByteArray) (h : (splitP s).2 = true) : joinQ (splitP s).1 = s := by
  have hg := splitP_good s h
  unfold splitP at h hg ⊢
  split
  · rename_i c
    rw [toList_data] at c
    apply ByteArray.ext
    apply Array.ext'
    rw [c]
    rfl
  · rename_i c0
    rw [if_neg c0] at h hg
    cases hX : parts s.data.toList with
    | nil => exact absurd hX (parts_ne _)
    | cons p ps =>
      rw [hX, List.map_cons] at h hg
      rw [List.map_cons]
      simp only at h hg ⊢
      by_cases c : (mkB p).toList = [] ∧ ps.map mkB ≠ [] ∧ goodPath (ps.map mkB) = true
      · rw [if_pos c] at hg
        rw [if_pos c]
        obtain ⟨c1, c2, c3⟩ := c
        rw [toList_data, data_mkB] at c1
        subst c1
        have hne : ps ≠ [] := fun e => c2 (by rw [e]; rfl)
        unfold joinQ
        rw [if_neg (fun e => c2 (List.eq_nil_of_length_eq_zero e)), if_pos c3]
        apply ByteArray.ext
        apply Array.ext'
        rw [glue_path ps hne]
        have := glue_parts s.data.toList
        rw [hX] at this
        cases ps with
        | nil => exact absurd rfl hne
        | cons q qs => rw [glue] at this; simpa using this
      · rw [if_neg c] at h
        simp at h
theorem strSz_pre (x y : List ByteArray) (h : x = y.take x.length) : strSz x ≤ strSz y := by rw [h]; exact strSz_take y _
theorem joinQ_size (l : List ByteArray) (hg : goodPath l = true) : (joinQ l).size = max 1 (l.length + strSz l) := by
  unfold joinQ
  by_cases c : l.length = 0
  · rw [if_pos c, List.eq_nil_of_length_eq_zero c]; rfl
  · rw [if_neg c, if_pos hg, pathB_size]; omega
end Go.Proofs.YtkfcmpalbhmmaaaDoor.Q
namespace Go.Proofs.YtkfcmpalbhmmaaaDoor.Q
open Go.RowKit Go.Proofs.YtkfcmpalbhmmaaaDoor.P Go.Proofs.YtkfcmpalbhmmaaaDoorW.PrintWords Go.Proofs.YtkfcmpalbhmmaaaDoorW.PrintLast Go.Proofs.YtkfcmpalbhmmaaaDoorW.PrintMore

/-- Where names lead to, from a number on, and a code. -/
def walkR (T : List S64) : List ByteArray → Int → Int × Int
  | [], ino => (ino, 0)
  | n :: l, ino => if isAt T ino = true then (if (inoAt T ino).f1 = 2 then (if entOf n (inoAt T ino).f4 = 0 then (0, 2) else walkR T l (entOf n (inoAt T ino).f4)) else (0, 3)) else (0, 2)
def walkP (T : List S64) (s : ByteArray) : Int × Int := if (splitP s).2 = true then walkR T (splitP s).1 1 else (0, 1)
theorem ev_names {γ : Type} (L : Nat → Int → Int → Option γ) (xs : List ByteArray) (F : List ByteArray → Int → γ) (h1 : ∀ ino, Ev (fun k => L k ino (xs.length : Nat)) (F [] ino))
    (h2 : ∀ (i : Nat) (hi : i < xs.length) (ino : Int), (∀ ino', Ev (fun k => L k ino' ((i + 1 : Nat) : Int)) (F (xs.drop (i + 1)) ino')) → Ev (fun k => L k ino (i : Nat)) (F (xs[i] :: xs.drop (i + 1)) ino)) (ino : Int) : Ev (fun k => L k ino 0) (F xs ino) := by
  have key : ∀ m i : Nat, xs.length - i = m → i ≤ xs.length → ∀ ino, Ev (fun k => L k ino (i : Nat)) (F (xs.drop i) ino) := by
    intro m
    induction m with
    | zero =>
      intro i hm hi ino
      obtain rfl : i = xs.length := by omega
      rw [List.drop_length]
      exact h1 ino
    | succ m ih =>
      intro i hm hi ino
      rw [List.drop_eq_getElem_cons (by omega)]
      exact h2 i (by omega) ino (ih (i + 1) (by omega) (by omega))
  simpa using key xs.length 0 (by omega) (by omega) ino
theorem impl_walk (T : List S64) (nx : Int) (s : ByteArray) (hT : T.length ≤ 1048576) (hs : ∀ x ∈ T, InoA x) (h : s.size ≤ 1048576) : Ev (fun k => impl_Walk.f k T nx s) (walkP T s) := by
  unfold impl_Walk.f walkP
  refine Ev.bind (impl_split s h) ?_
  have hl := (splitP_size s).1
  generalize splitP s = p at *
  refine evI (fun _ => ?_) (fun _ => Ev.now _)
  refine ev_names (fun k ino i => impl_Walk.l0 k ino p.1 p.1.length i T nx) p.1 (walkR T) (fun ino => ?_) (fun i hi ino ih => ?_) 1
  · apply evPre
    simp only [impl_Walk.l0]
    exact evN (by omega) (Ev.now _)
  · have hx := inoAt_small T ino hs
    apply evPre
    simp only [impl_Walk.l0, walkR]
    rw [nxtJ i p.1.length hi (by omega), rdS p.1 i hi]
    refine evP (by omega) (evP (by omega) (evP (by omega) (Ev.bind (impl_inodeAt T nx ino hT hs) ?_)))
    refine evI (fun _ => evI (fun _ => ?_) (fun _ => Ev.now _)) (fun _ => Ev.now _)
    refine Ev.bind (impl_entOf _ _ _ _ _ _ p.1[i] (by have := hx.e; dsimp only; omega)) ?_
    exact evI (fun _ => Ev.now _) (fun _ => ih _)
theorem spec_walk (T : List S64) (nx : Int) (s : ByteArray) (hT : T.length ≤ 1048576) (hs : ∀ x ∈ T, InoA x) (h : s.size ≤ 1048576) : Ev (fun k => spec_Walk.f k T nx s) (walkP T s) := by
  unfold spec_Walk.f walkP
  refine Ev.bind (spec_split s h) ?_
  have hl := (splitP_size s).1
  generalize splitP s = p at *
  refine evI (fun _ => ?_) (fun _ => Ev.now _)
  unfold spec_l5Walk.f
  refine Ev.bind (ev_names (fun k ino i => spec_l5Walk.l0 k p.1 ino i T nx) p.1 (walkR T) (fun ino => ?_) (fun i hi ino ih => ?_) 1) (Ev.now _)
  · apply evPre
    simp only [spec_l5Walk.l0]
    exact evN (by omega) (Ev.now _)
  · have hx := inoAt_small T ino hs
    have hr := place_range ino T 0
    apply evPre
    simp only [spec_l5Walk.l0, walkR]
    rw [nxtJ i p.1.length hi (by omega), rdS p.1 i hi]
    refine evP (by omega) (Ev.bind (spec_at T nx ino hT) ?_)
    by_cases c : placeR ino T 0 < 0
    · have hn : ¬ isAt T ino = true := by simp only [isAt, decide_eq_true_eq]; omega
      rw [if_neg hn]
      exact evP c (Ev.now _)
    · have hy : isAt T ino = true := by simp only [isAt, decide_eq_true_eq]; omega
      have hi' : inoAt T ino = rd_T64 T (placeR ino T 0) := by simp only [inoAt, if_neg c]
      rw [if_pos hy, hi']
      rw [hi'] at hx
      refine evN c (evP (by omega) (evP (by omega) (evI (fun _ => evP (by omega) ?_) (fun _ => Ev.now _))))
      refine Ev.bind (spec_entOf _ _ _ _ _ _ p.1[i] (by have := hx.e; omega)) ?_
      exact evI (fun _ => Ev.now _) (fun _ => ih _)
end Go.Proofs.YtkfcmpalbhmmaaaDoor.Q
namespace Go.Proofs.YtkfcmpalbhmmaaaDoor.Q
open Go.RowKit Go.Proofs.YtkfcmpalbhmmaaaDoor.P Go.Proofs.YtkfcmpalbhmmaaaDoorW.PrintWords Go.Proofs.YtkfcmpalbhmmaaaDoorW.PrintLast Go.Proofs.YtkfcmpalbhmmaaaDoorW.PrintMore

def ino0 : S64 := ⟨0, 0, 0, [], [], []⟩
/-- The inode of a path, and a code. -/
def statP (T : List S64) (s : ByteArray) : S64 × Int :=
  if (walkP T s).2 = 0 then (if isAt T (walkP T s).1 = true then (inoAt T (walkP T s).1, 0) else (ino0, 2)) else (ino0, (walkP T s).2)
def tup (p : S64 × Int) : Int × Int × Int × List Int × List S91 × List S87 × Int := (p.1.f0, p.1.f1, p.1.f2, p.1.f3, p.1.f4, p.1.f5, p.2)
theorem statP_small (T : List S64) (s : ByteArray) (hs : ∀ x ∈ T, InoA x) : InoA (statP T s).1 := by
  unfold statP
  split
  · split
    · exact inoAt_small T _ hs
    · exact ⟨by simp [ino0], by simp [ino0], by simp [ino0]⟩
  · exact ⟨by simp [ino0], by simp [ino0], by simp [ino0]⟩
theorem impl_stat (T : List S64) (nx : Int) (s : ByteArray) (hT : T.length ≤ 1048576) (hs : ∀ x ∈ T, InoA x) (h : s.size ≤ 1048576) : Ev (fun k => impl_Stat.f k T nx s) (tup (statP T s)) := by
  unfold impl_Stat.f
  refine Ev.bind (impl_walk T nx s hT hs h) ?_
  by_cases c : (walkP T s).2 = 0
  · refine evP c (Ev.bind (impl_inodeAt T nx _ hT hs) ?_)
    by_cases d : isAt T (walkP T s).1 = true
    · exact evP d (evC (Ev.now _) (by simp only [statP, tup, if_pos c, if_pos d]))
    · exact evN d (evC (Ev.now _) (by simp only [statP, tup, if_pos c, if_neg d]; rfl))
  · exact evN c (evC (Ev.now _) (by simp only [statP, tup, if_neg c]; rfl))
theorem spec_stat (T : List S64) (nx : Int) (s : ByteArray) (hT : T.length ≤ 1048576) (hs : ∀ x ∈ T, InoA x) (h : s.size ≤ 1048576) : Ev (fun k => spec_Stat.f k T nx s) (tup (statP T s)) := by
  unfold spec_Stat.f
  refine Ev.bind (spec_walk T nx s hT hs h) ?_
  by_cases c : (walkP T s).2 = 0
  · refine evP c (Ev.bind (spec_inodeAt T nx _ hT hs) ?_)
    by_cases d : isAt T (walkP T s).1 = true
    · exact evP d (evC (Ev.now _) (by simp only [statP, tup, if_pos c, if_pos d]))
    · exact evN d (evC (Ev.now _) (by simp only [statP, tup, if_pos c, if_neg d]; rfl))
  · exact evN c (evC (Ev.now _) (by simp only [statP, tup, if_neg c]; rfl))
end Go.Proofs.YtkfcmpalbhmmaaaDoor.Q
namespace Go.Proofs.YtkfcmpalbhmmaaaDoor.Q
open Go.RowKit Go.Proofs.YtkfcmpalbhmmaaaDoor.P Go.Proofs.YtkfcmpalbhmmaaaDoorW.PrintWords Go.Proofs.YtkfcmpalbhmmaaaDoorW.PrintLast Go.Proofs.YtkfcmpalbhmmaaaDoorW.PrintMore

/-- n bytes from o on, as many as there are. -/
def readL (d : List Int) (o n : Int) : List Int := (d.drop (mn o d.length).toNat).take (mn n (d.drop (mn o d.length).toNat).length).toNat
def readP (T : List S64) (s : ByteArray) (o n : Int) : List Int × Int :=
  if o < 0 ∨ n < 0 then ([], 1) else
  if (statP T s).2 = 0 then (if (statP T s).1.f1 = 1 then (readL (statP T s).1.f3 o n, 0) else ([], 3)) else ([], (statP T s).2)
theorem readP_len (T : List S64) (s : ByteArray) (o n : Int) (hs : ∀ x ∈ T, InoA x) : (readP T s o n).1.length ≤ 1048576 := by
  have h := (statP_small T s hs).d
  unfold readP
  split
  · simp
  · split
    · split
      · simp only [readL, List.length_take, List.length_drop]; omega
      · simp
    · simp
theorem clone_bytes (d : List Int) (h : d.length ≤ 1048576) : slices_Clone_byte_byte.f d = some d := by
  unfold slices_Clone_byte_byte.f
  simp only [Option.bind_some, List.length_nil, List.nil_append]
  rw [if_pos (by omega)]
theorem impl_read (T : List S64) (nx : Int) (s : ByteArray) (o n : Int) (hT : T.length ≤ 1048576) (hs : ∀ x ∈ T, InoA x) (h : s.size ≤ 1048576) : Ev (fun k => impl_ReadFile.f k T nx s o n) (readP T s o n) := by
  have hx := (statP_small T s hs).d
  have bad : Ev (fun k => impl_ReadFile.j0 k s o n true T nx) ([], 1) := by
    apply evPre
    simp only [impl_ReadFile.j0]
    exact evP trivial (Ev.now _)
  unfold impl_ReadFile.f readP
  by_cases c : o < 0
  · rw [if_pos (Or.inl c)]
    exact evP c bad
  refine evN c ?_
  by_cases d : n < 0
  · rw [if_pos (Or.inr d), decide_eq_true d]
    exact bad
  rw [if_neg (by omega), decide_eq_false d]
  apply evPre
  simp only [impl_ReadFile.j0]
  refine evN (by simp) (Ev.bind (impl_stat T nx s hT hs h) ?_)
  simp only [Option.bind_some, tup]
  generalize statP T s = X at *
  obtain ⟨⟨x0, x1, x2, D, x4, x5⟩, code⟩ := X
  dsimp only at hx ⊢
  refine evI (fun _ => evI (fun _ => ?_) (fun _ => Ev.now _)) (fun _ => Ev.now _)
  have h0 : 0 ≤ mn o D.length := by unfold mn; omega
  have h1 : mn o D.length ≤ D.length := by unfold mn; omega
  have h2 : 0 ≤ mn n (D.drop (mn o D.length).toNat).length := by unfold mn; omega
  have h3 : mn n (D.drop (mn o D.length).toNat).length ≤ (D.drop (mn o D.length).toNat).length := by unfold mn; omega
  refine evP h0 (evP h1 (evP h2 (evP h3 ?_)))
  simp only [clone_bytes _ (show ((D.drop (mn o D.length).toNat).take (mn n (D.drop (mn o D.length).toNat).length).toNat).length ≤ 1048576 by rw [List.length_take, List.length_drop]; omega), Option.bind_some]
  exact Ev.now _
theorem readL_cut (d : List Int) (o n : Nat) (ho : o ≤ d.length) (hn : o + n ≤ d.length) : (d.take (o + n)).drop o = (d.drop o).take n := by
  rw [List.drop_take]; congr 1; omega
theorem spec_read (T : List S64) (nx : Int) (s : ByteArray) (o n : Int) (hT : T.length ≤ 1048576) (hs : ∀ x ∈ T, InoA x) (h : s.size ≤ 1048576) (hn63 : n ≤ 9223372036854775807) : Ev (fun k => spec_ReadFile.f k T nx s o n) (readP T s o n) := by
  have hx := (statP_small T s hs).d
  have bad : Ev (fun k => spec_ReadFile.j0 k s o n true T nx) ([], 1) := by
    apply evPre
    simp only [spec_ReadFile.j0]
    exact evP trivial (Ev.now _)
  unfold spec_ReadFile.f readP
  by_cases c : o < 0
  · rw [if_pos (Or.inl c)]
    exact evP c bad
  refine evN c ?_
  by_cases d : n < 0
  · rw [if_pos (Or.inr d), decide_eq_true d]
    exact bad
  rw [if_neg (by omega), decide_eq_false d]
  apply evPre
  simp only [spec_ReadFile.j0]
  refine evN (by simp) ?_
  apply evPre
  simp only [spec_ReadFile.j1]
  refine Ev.bind (spec_stat T nx s hT hs h) ?_
  refine evI (fun _ => ?_) (fun _ => Ev.now _)
  simp only [tup]
  generalize statP T s = X at *
  obtain ⟨⟨x0, x1, x2, D, x4, x5⟩, code⟩ := X
  dsimp only at hx ⊢
  apply evPre
  simp only [spec_ReadFile.j2]
  refine evI (fun _ => ?_) (fun _ => Ev.now _)
  apply evPre
  simp only [spec_ReadFile.j3, Option.bind_some, List.length_nil, List.nil_append, Nat.zero_add]
  unfold readL
  by_cases c1 : o > D.length
  · have e1 : (mn o D.length).toNat = D.length := by unfold mn; omega
    rw [e1]
    refine evP c1 ?_
    rw [w64 (n := (D.length : Int) - D.length) (by omega) (by omega)]
    by_cases c2 : n > (D.length : Int) - D.length
    · refine evP c2 ?_
      rw [w64 (by omega) (by omega)]
      refine evP (by omega) (evP (by omega) (evP (by omega) (evP (by rw [List.length_drop, List.length_take]; omega) (evC (Ev.now _) ?_))))
      rw [List.drop_eq_nil_of_le (by rw [List.length_take]; omega), List.drop_length]; simp
    · refine evN c2 ?_
      rw [w64 (by omega) (by omega)]
      refine evP (by omega) (evP (by omega) (evP (by omega) (evP (by rw [List.length_drop, List.length_take]; omega) (evC (Ev.now _) ?_))))
      rw [List.drop_eq_nil_of_le (by rw [List.length_take]; omega), List.drop_length]; simp
  · obtain ⟨a, rfl⟩ := Int.eq_ofNat_of_zero_le (show 0 ≤ o by omega)
    have e1 : (mn (a : Int) D.length).toNat = a := by unfold mn; omega
    rw [e1]
    refine evN c1 ?_
    rw [w64 (n := (D.length : Int) - a) (by omega) (by omega)]
    by_cases c2 : n > (D.length : Int) - a
    · have e2 : (mn n (D.drop a).length).toNat = D.length - a := by rw [List.length_drop]; unfold mn; omega
      refine evP c2 ?_
      rw [e2, w64 (by omega) (by omega)]
      refine evP (by omega) (evP (by omega) (evP (by omega) (evP (by rw [List.length_drop, List.length_take]; omega) (evC (Ev.now _) ?_))))
      rw [show ((a : Int) + ((D.length : Int) - a)).toNat = a + (D.length - a) by omega, Int.toNat_natCast, readL_cut D a _ (by omega) (by omega)]
    · obtain ⟨b, rfl⟩ := Int.eq_ofNat_of_zero_le (show 0 ≤ n by omega)
      have e2 : (mn (b : Int) (D.drop a).length).toNat = b := by rw [List.length_drop]; unfold mn; omega
      refine evN c2 ?_
      rw [e2, w64 (by omega) (by omega)]
      refine evP (by omega) (evP (by omega) (evP (by omega) (evP (by rw [List.length_drop, List.length_take]; omega) (evC (Ev.now _) ?_))))
      rw [show ((a : Int) + (b : Int)).toNat = a + b by omega, Int.toNat_natCast, readL_cut D a _ (by omega) (by omega)]
end Go.Proofs.YtkfcmpalbhmmaaaDoor.Q
