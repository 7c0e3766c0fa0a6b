/- Loops over lists in plain words: what is copied, what is compared with itself, what is summed. No condition. -/
import Derived.Test.YtkfcmpalbhmmaaaDoorQa
namespace Go.Proofs.YtkfcmpalbhmmaaaDoor.Q
open Go.RowKit Go.Proofs.YtkfcmpalbhmmaaaDoorW.PrintWords Go.Proofs.YtkfcmpalbhmmaaaDoorW.PrintLast Go.Proofs.YtkfcmpalbhmmaaaDoorW.PrintMore

theorem set_copy_of {α β : Type} (xs : List α) (f : α → β) (z : β) (i : Nat) (hi : i < xs.length) :
    ((xs.take i).map f ++ List.replicate (xs.length - i) z).set i (f xs[i]) = (xs.take (i + 1)).map f ++ List.replicate (xs.length - (i + 1)) z := by
  rw [List.set_append, if_neg (by simp; omega)]
  obtain ⟨m, hm⟩ : ∃ m, xs.length - i = m + 1 := ⟨xs.length - i - 1, by omega⟩
  rw [hm, List.replicate_succ, show i - ((xs.take i).map f).length = 0 from by simp; omega, List.set_cons_zero, show xs.length - (i + 1) = m from by omega, List.take_succ_eq_append_getElem hi, List.map_append, List.append_assoc]
  rfl
theorem ev_copy {α β : Type} (L : Nat → List β → Int → Option (List β)) (xs : List α) (f : α → β) (z : β)
    (h1 : ∀ ys : List β, Ev (fun k => L k ys (xs.length : Nat)) ys)
    (h2 : ∀ (i : Nat) (hi : i < xs.length) (ys : List β), ys.length = xs.length → ∀ R, Ev (fun k => L k (ys.set i (f xs[i])) ((i + 1 : Nat) : Int)) R → Ev (fun k => L k ys (i : Nat)) R) :
    Ev (fun k => L k (List.replicate xs.length z) 0) (xs.map f) := by
  have key : ∀ n i : Nat, xs.length - i = n → i ≤ xs.length → Ev (fun k => L k ((xs.take i).map f ++ List.replicate (xs.length - i) z) (i : Nat)) (xs.map f) := by
    intro n
    induction n with
    | zero =>
      intro i hn hi
      obtain rfl : i = xs.length := by omega
      simpa using h1 (xs.map f)
    | succ n ih =>
      intro i hn hi
      refine h2 i (by omega) _ (by simp; omega) _ ?_
      rw [set_copy_of xs f z i (by omega)]
      exact ih (i + 1) (by omega) (by omega)
  simpa using key xs.length 0 (by omega) (by omega)
/-- A loop over places that goes on at each of them. -/
theorem ev_scan {γ : Type} (L : Nat → Int → Option γ) (n : Nat) (R : γ) (h1 : Ev (fun k => L k (n : Nat)) R) (h2 : ∀ i : Nat, i < n → Ev (fun k => L k ((i + 1 : Nat) : Int)) R → Ev (fun k => L k (i : Nat)) R) : Ev (fun k => L k 0) R := by
  have key : ∀ m i : Nat, n - i = m → i ≤ n → Ev (fun k => L k (i : Nat)) R := by
    intro m
    induction m with
    | zero =>
      intro i hm hi
      obtain rfl : i = n := by omega
      exact h1
    | succ m ih =>
      intro i hm hi
      exact h2 i (by omega) (ih (i + 1) (by omega) (by omega))
  simpa using key n 0 (by omega) (by omega)
/-- A loop over places, from what is told at each of them: a fold over the list from its end. -/
theorem ev_fold {α γ : Type} (L : Nat → Int → Option γ) (xs : List α) (F : List α → γ) (h1 : Ev (fun k => L k (xs.length : Nat)) (F []))
    (h2 : ∀ (i : Nat) (hi : i < xs.length), Ev (fun k => L k ((i + 1 : Nat) : Int)) (F (xs.drop (i + 1))) → Ev (fun k => L k (i : Nat)) (F (xs[i] :: xs.drop (i + 1)))) : Ev (fun k => L k 0) (F xs) := by
  have key : ∀ m i : Nat, xs.length - i = m → i ≤ xs.length → Ev (fun k => L k (i : Nat)) (F (xs.drop i)) := by
    intro m
    induction m with
    | zero =>
      intro i hm hi
      obtain rfl : i = xs.length := by omega
      rw [List.drop_length]
      exact h1
    | succ m ih =>
      intro i hm hi
      rw [List.drop_eq_getElem_cons (by omega)]
      exact h2 i (by omega) (ih (i + 1) (by omega) (by omega))
  simpa using key xs.length 0 (by omega) (by omega)
theorem getD_at {α : Type} (xs : List α) (z : α) (i : Nat) (hi : i < xs.length) : xs.getD ((i : Nat) : Int).toNat z = xs[i] := by
  simp [List.getD_eq_getElem?_getD, List.getElem?_eq_getElem hi]
/-- A loop over places with a number that is carried on; what holds of it (I), and what the loop answers (Z). -/
theorem ev_carry {γ : Type} (L : Nat → Int → Int → Option γ) (n : Nat) (I : Nat → Int → Prop) (Z : γ → Prop) (h1 : ∀ a, I n a → ∃ R, Ev (fun k => L k a (n : Nat)) R ∧ Z R)
    (h2 : ∀ (i : Nat) (a : Int), i < n → I i a → (∃ R, Ev (fun k => L k a (i : Nat)) R ∧ Z R) ∨ ∃ b, I (i + 1) b ∧ ∀ R, Ev (fun k => L k b ((i + 1 : Nat) : Int)) R → Ev (fun k => L k a (i : Nat)) R) (a : Int) (ha : I 0 a) : ∃ R, Ev (fun k => L k a 0) R ∧ Z R := by
  have key : ∀ m i : Nat, n - i = m → i ≤ n → ∀ a, I i a → ∃ R, Ev (fun k => L k a (i : Nat)) R ∧ Z R := by
    intro m
    induction m with
    | zero =>
      intro i hm hi a ha
      obtain rfl : i = n := by omega
      exact h1 a ha
    | succ m ih =>
      intro i hm hi a ha
      rcases h2 i a (by omega) ha with h | ⟨b, hb, h⟩
      · exact h
      · obtain ⟨R, hR, hZ⟩ := ih (i + 1) (by omega) (by omega) b hb
        exact ⟨R, h R hR, hZ⟩
  simpa using key n 0 (by omega) (by omega) a ha
end Go.Proofs.YtkfcmpalbhmmaaaDoor.Q
