/- What the functions that the law reaches answer, in plain words. No condition. -/
import Derived.Laws.BitsLemmas
import Derived.Test.YtmndnegpclaidaaKinds
import Derived.Test.YtmndnegpclaidaaPx0
import Derived.Test.YtmndnegpclaidaaPx1
import Derived.Test.YtmndnegpclaidaaPx2
import Derived.Test.YtmndnegpclaidaaPx3
import Derived.Test.YtmndnegpclaidaaPx4
import Derived.Test.YtmndnegpclaidaaPx5
import Derived.Test.YtmndnegpclaidaaWMore
namespace Go.Proofs.Ytmndnegpclaidaa.Q
open Go.RowKit Go.Proofs.YtmndnegpclaidaaW.PrintWords Go.Proofs.YtmndnegpclaidaaW.PrintLast Go.Proofs.YtmndnegpclaidaaW.PrintMore

theorem evPre {α : Type} {g : Nat → Option α} {r : α} (h : Ev (fun k => g (k + 1)) r) : Ev g r := by
  obtain ⟨K, h⟩ := h
  refine ⟨K + 1, fun n hn => ?_⟩
  obtain ⟨m, rfl⟩ : ∃ m, n = m + 1 := ⟨n - 1, by omega⟩
  exact h m (by omega)
theorem evP {α : Type} {c : Prop} [Decidable c] {A B : Nat → Option α} {r : α} (hc : c) (h : Ev A r) : Ev (fun k => if c then A k else B k) r := by
  simpa only [if_pos hc] using h
theorem evN {α : Type} {c : Prop} [Decidable c] {A B : Nat → Option α} {r : α} (hc : ¬ c) (h : Ev B r) : Ev (fun k => if c then A k else B k) r := by
  simpa only [if_neg hc] using h
theorem evI {α : Type} {c : Prop} [Decidable c] {A B : Nat → Option α} {r s : α} (hp : c → Ev A r) (hn : ¬ c → Ev B s) : Ev (fun k => if c then A k else B k) (if c then r else s) := by
  by_cases hc : c
  · simpa only [if_pos hc] using hp hc
  · simpa only [if_neg hc] using hn hc
theorem evI' {α : Type} {c : Prop} [Decidable c] {A B : Nat → Option α} {r : α} (hp : c → Ev A r) (hn : ¬ c → Ev B r) : Ev (fun k => if c then A k else B k) r := by
  by_cases hc : c
  · simpa only [if_pos hc] using hp hc
  · simpa only [if_neg hc] using hn hc
theorem evU {α : Type} {g : Nat → Option α} {r s : α} (h : Ev g r) (k : Ev g s) : r = s := by
  obtain ⟨K, h⟩ := h
  obtain ⟨L, k⟩ := k
  have := (h (max K L) (Nat.le_max_left _ _)).symm.trans (k (max K L) (Nat.le_max_right _ _))
  exact Option.some.inj this
theorem evC {α : Type} {g : Nat → Option α} {r s : α} (h : Ev g r) (e : r = s) : Ev g s := e ▸ h

theorem w64 {n : Int} (h0 : -9223372036854775808 ≤ n) (h1 : n ≤ 9223372036854775807) : wrap64 n = n := by
  unfold wrap64
  omega
theorem wf64 {n : Int} (h : (Lit.int .i64 n).wf = true) : -9223372036854775808 ≤ n ∧ n ≤ 9223372036854775807 := by
  simpa [Lit.wf, IntKind.min, IntKind.max, IntKind.signed, IntKind.bits] using h
theorem wf8 {n : Int} (h : (Lit.int .u8 n).wf = true) : 0 ≤ n ∧ n ≤ 255 := by
  simpa [Lit.wf, IntKind.min, IntKind.max, IntKind.signed, IntKind.bits] using h

/-- All bytes. -/
def Byt (l : List Int) : Prop := ∀ x ∈ l, 0 ≤ x ∧ x ≤ 255
theorem Byt.rd {l : List Int} (h : Byt l) (i : Int) : 0 ≤ rd l i ∧ rd l i ≤ 255 := by
  unfold Go.Proofs.YtmndnegpclaidaaW.PrintWords.rd
  rw [List.getD_eq_getElem?_getD]
  by_cases hi : i.toNat < l.length
  · rw [List.getElem?_eq_getElem hi]
    exact h _ (List.getElem_mem hi)
  · rw [List.getElem?_eq_none (by omega)]
    simp
theorem byt_bytesOf (s : ByteArray) : Byt (bytesOf s) := by
  intro x hx
  simp only [bytesOf, List.mem_map] at hx
  obtain ⟨b, _, rfl⟩ := hx
  have := b.toNat_lt
  omega
theorem drop_cons (l : List Int) (i : Nat) (h : i < l.length) : l.drop i = rd l i :: l.drop (i + 1) := by
  rw [List.drop_eq_getElem_cons h]
  simp [Go.Proofs.YtmndnegpclaidaaW.PrintWords.rd, List.getElem?_eq_getElem h]
theorem toList_data (s : ByteArray) : s.toList = s.data.toList := by
  simp [ByteArray.toList_eq]
end Go.Proofs.Ytmndnegpclaidaa.Q
namespace Go.Proofs.Ytmndnegpclaidaa.Q
open Go.RowKit Go.Proofs.Ytmndnegpclaidaa.P Go.Proofs.YtmndnegpclaidaaW.PrintWords Go.Proofs.YtmndnegpclaidaaW.PrintLast Go.Proofs.YtmndnegpclaidaaW.PrintMore

def goodc (c : Int) : Bool := decide (97 ≤ c ∧ c ≤ 122 ∨ 48 ≤ c ∧ c ≤ 57 ∨ c = 95 ∨ c = 45 ∨ c = 46)
/-- What is asked of a name beside its letters. -/
def nameEnd (s : ByteArray) : Bool := decide (1 ≤ s.size ∧ s.size ≤ 14) && s.toList != ([46] : List UInt8) && s.toList != ([46, 46] : List UInt8)
def nameOk (s : ByteArray) : Bool := (bytesOf s).all goodc && nameEnd s

theorem nameEnd_impl (s : ByteArray) : (if (s.size : Int) ≥ 1 then (if (s.size : Int) ≤ 14 then (if s.toList = ([46] : List UInt8) then (some false) else (some (s.toList != ([46, 46] : List UInt8)))) else (some false)) else (some false)) = some (nameEnd s) := by
  unfold nameEnd
  by_cases h : 1 ≤ s.size
  · rw [if_pos (by omega)]
    by_cases h2 : s.size ≤ 14
    · rw [if_pos (by omega)]
      by_cases h1 : s.toList = [46]
      · simp [h1]
      · rw [if_neg h1]; simp [h, h2, h1]
    · rw [if_neg (by omega)]; simp [h2]
  · rw [if_neg (by omega)]; simp [h]

theorem drop_bytes (s : ByteArray) (i : Nat) (h : i < s.size) : (bytesOf s).drop i = bt s i :: (bytesOf s).drop (i + 1) := by
  rw [drop_cons _ _ (by rw [bytesOf_length]; exact h), rd_bytesOf]

end Go.Proofs.Ytmndnegpclaidaa.Q
namespace Go.Proofs.Ytmndnegpclaidaa.Q
open Go.RowKit Go.Proofs.Ytmndnegpclaidaa.P Go.Proofs.YtmndnegpclaidaaW.PrintWords Go.Proofs.YtmndnegpclaidaaW.PrintLast Go.Proofs.YtmndnegpclaidaaW.PrintMore

theorem set_copy (l : List Int) (n i : Nat) (hn : n = l.length) (hi : i < n) : (l.take i ++ List.replicate (n - i) 0).set i (rd l i) = l.take (i + 1) ++ List.replicate (n - (i + 1)) 0 := by
  subst hn
  rw [List.set_append, if_neg (by rw [List.length_take]; omega), show i - (l.take i).length = 0 from by rw [List.length_take]; omega]
  obtain ⟨m, hm⟩ : ∃ m, l.length - i = m + 1 := ⟨l.length - i - 1, by omega⟩
  rw [hm, List.replicate_succ, List.set_cons_zero, show l.length - (i + 1) = m from by omega, List.take_succ_eq_append_getElem hi, List.append_assoc]
  have : rd l i = l[i] := by simp [Go.Proofs.YtmndnegpclaidaaW.PrintWords.rd, List.getElem?_eq_getElem hi]
  rw [this]
  rfl
theorem toByteS_loop (l : List Int) (hl : l.length ≤ 9223372036854775807) (n : Nat) : ∀ (i : Nat), i ≤ l.length → l.length - i = n →
    Ev (fun k => laws_toByteS.l0 k l (l.take i ++ List.replicate (l.length - i) 0) i) l := by
  induction n with
  | zero =>
    intro i hi hn
    apply evPre
    simp only [laws_toByteS.l0]
    refine evN (by omega) ?_
    rw [List.take_of_length_le (by omega), hn]
    simpa using Ev.now l
  | succ n ih =>
    intro i hi hn
    have ih := ih (i + 1) (by omega) (by omega)
    rw [show ((i + 1 : Nat) : Int) = wrap64 ((i : Int) + 1) from by rw [w64 (by omega) (by omega)]; simp] at ih
    apply evPre
    simp only [laws_toByteS.l0]
    refine evP (by omega) (evP (by omega) (evP (by simp [List.length_append, List.length_take]; omega) ?_))
    rw [Int.toNat_natCast, set_copy l _ i rfl (by omega)]
    exact ih
theorem toByteS_ev (l : List Int) (hl : l.length ≤ 281474976710656) : Ev (fun k => laws_toByteS.f k l) l := by
  have h := toByteS_loop l (by omega) l.length 0 (by omega) (by omega)
  simpa [laws_toByteS.f, hl] using h

theorem eq_drop (a b : List Int) (i : Nat) (ha : i < a.length) (hb : i < b.length) : decide (a.drop i = b.drop i) = (decide (rd a i = rd b i) && decide (a.drop (i + 1) = b.drop (i + 1))) := by
  rw [drop_cons a i ha, drop_cons b i hb]
  by_cases h : rd a i = rd b i <;> simp [h]
theorem eqByteS_loop (a b : List Int) (hab : a.length = b.length) (hl : a.length ≤ 9223372036854775807) (n : Nat) : ∀ (i : Nat), i ≤ a.length → a.length - i = n →
    Ev (fun k => laws_eqByteS.l0 k a b i) (decide (a.drop i = b.drop i)) := by
  induction n with
  | zero =>
    intro i hi hn
    apply evPre
    simp only [laws_eqByteS.l0]
    refine evN (by omega) ?_
    rw [List.drop_eq_nil_of_le (by omega), List.drop_eq_nil_of_le (by omega)]
    simpa using Ev.now true
  | succ n ih =>
    intro i hi hn
    have ih := ih (i + 1) (by omega) (by omega)
    rw [show ((i + 1 : Nat) : Int) = wrap64 ((i : Int) + 1) from by rw [w64 (by omega) (by omega)]; simp] at ih
    apply evPre
    simp only [laws_eqByteS.l0]
    rw [eq_drop a b i (by omega) (by omega)]
    refine evP (by omega) (evP (by omega) (evP (by omega) ?_))
    by_cases h : rd a i = rd b i
    · refine evP h (evC ih ?_); simp [h]
    · refine evN h (evC (Ev.now _) ?_); simp [h]
theorem eqByteS_ev (a b : List Int) (hl : a.length ≤ 9223372036854775807) : Ev (fun k => laws_eqByteS.f k a b) (decide (a = b)) := by
  unfold laws_eqByteS.f
  by_cases h : a.length = b.length
  · have h1 := eqByteS_loop a b h hl a.length 0 (by omega) (by omega)
    refine evP (by omega) ?_
    simpa using h1
  · refine evN (by omega) (evC (Ev.now _) ?_)
    have : a ≠ b := fun e => h (by rw [e])
    simp [this]

end Go.Proofs.Ytmndnegpclaidaa.Q
namespace Go.Proofs.Ytmndnegpclaidaa.Q
open Go.RowKit Go.Proofs.YtmndnegpclaidaaW.PrintWords Go.Proofs.YtmndnegpclaidaaW.PrintLast Go.Proofs.YtmndnegpclaidaaW.PrintMore

theorem set_copy_of {α β : Type} (xs : List α) (f : α → β) (z : β) (i : Nat) (hi : i < xs.length) :
    ((xs.take i).map f ++ List.replicate (xs.length - i) z).set i (f xs[i]) = (xs.take (i + 1)).map f ++ List.replicate (xs.length - (i + 1)) z := by
  rw [List.set_append, if_neg (by simp; omega)]
  obtain ⟨m, hm⟩ : ∃ m, xs.length - i = m + 1 := ⟨xs.length - i - 1, by omega⟩
  rw [hm, List.replicate_succ, show i - ((xs.take i).map f).length = 0 from by simp; omega, List.set_cons_zero, show xs.length - (i + 1) = m from by omega, List.take_succ_eq_append_getElem hi, List.map_append, List.append_assoc]
  rfl
theorem ev_copy {α β : Type} (L : Nat → List β → Int → Option (List β)) (xs : List α) (f : α → β) (z : β)
    (h1 : ∀ ys : List β, Ev (fun k => L k ys (xs.length : Nat)) ys)
    (h2 : ∀ (i : Nat) (hi : i < xs.length) (ys : List β), ys.length = xs.length → ∀ R, Ev (fun k => L k (ys.set i (f xs[i])) ((i + 1 : Nat) : Int)) R → Ev (fun k => L k ys (i : Nat)) R) :
    Ev (fun k => L k (List.replicate xs.length z) 0) (xs.map f) := by
  have key : ∀ n i : Nat, xs.length - i = n → i ≤ xs.length → Ev (fun k => L k ((xs.take i).map f ++ List.replicate (xs.length - i) z) (i : Nat)) (xs.map f) := by
    intro n
    induction n with
    | zero =>
      intro i hn hi
      obtain rfl : i = xs.length := by omega
      simpa using h1 (xs.map f)
    | succ n ih =>
      intro i hn hi
      refine h2 i (by omega) _ (by simp; omega) _ ?_
      rw [set_copy_of xs f z i (by omega)]
      exact ih (i + 1) (by omega) (by omega)
  simpa using key xs.length 0 (by omega) (by omega)
/-- A loop over places that goes on at each of them. -/
theorem ev_scan {γ : Type} (L : Nat → Int → Option γ) (n : Nat) (R : γ) (h1 : Ev (fun k => L k (n : Nat)) R) (h2 : ∀ i : Nat, i < n → Ev (fun k => L k ((i + 1 : Nat) : Int)) R → Ev (fun k => L k (i : Nat)) R) : Ev (fun k => L k 0) R := by
  have key : ∀ m i : Nat, n - i = m → i ≤ n → Ev (fun k => L k (i : Nat)) R := by
    intro m
    induction m with
    | zero =>
      intro i hm hi
      obtain rfl : i = n := by omega
      exact h1
    | succ m ih =>
      intro i hm hi
      exact h2 i (by omega) (ih (i + 1) (by omega) (by omega))
  simpa using key n 0 (by omega) (by omega)
/-- A loop over places, from what is told at each of them: a fold over the list from its end. -/
theorem ev_fold {α γ : Type} (L : Nat → Int → Option γ) (xs : List α) (F : List α → γ) (h1 : Ev (fun k => L k (xs.length : Nat)) (F []))
    (h2 : ∀ (i : Nat) (hi : i < xs.length), Ev (fun k => L k ((i + 1 : Nat) : Int)) (F (xs.drop (i + 1))) → Ev (fun k => L k (i : Nat)) (F (xs[i] :: xs.drop (i + 1)))) : Ev (fun k => L k 0) (F xs) := by
  have key : ∀ m i : Nat, xs.length - i = m → i ≤ xs.length → Ev (fun k => L k (i : Nat)) (F (xs.drop i)) := by
    intro m
    induction m with
    | zero =>
      intro i hm hi
      obtain rfl : i = xs.length := by omega
      rw [List.drop_length]
      exact h1
    | succ m ih =>
      intro i hm hi
      rw [List.drop_eq_getElem_cons (by omega)]
      exact h2 i (by omega) (ih (i + 1) (by omega) (by omega))
  simpa using key xs.length 0 (by omega) (by omega)
theorem getD_at {α : Type} (xs : List α) (z : α) (i : Nat) (hi : i < xs.length) : xs.getD ((i : Nat) : Int).toNat z = xs[i] := by
  simp [List.getD_eq_getElem?_getD, List.getElem?_eq_getElem hi]
/-- A loop over places with a number that is carried on; what holds of it (I), and what the loop answers (Z). -/
theorem ev_carry {γ : Type} (L : Nat → Int → Int → Option γ) (n : Nat) (I : Nat → Int → Prop) (Z : γ → Prop) (h1 : ∀ a, I n a → ∃ R, Ev (fun k => L k a (n : Nat)) R ∧ Z R)
    (h2 : ∀ (i : Nat) (a : Int), i < n → I i a → (∃ R, Ev (fun k => L k a (i : Nat)) R ∧ Z R) ∨ ∃ b, I (i + 1) b ∧ ∀ R, Ev (fun k => L k b ((i + 1 : Nat) : Int)) R → Ev (fun k => L k a (i : Nat)) R) (a : Int) (ha : I 0 a) : ∃ R, Ev (fun k => L k a 0) R ∧ Z R := by
  have key : ∀ m i : Nat, n - i = m → i ≤ n → ∀ a, I i a → ∃ R, Ev (fun k => L k a (i : Nat)) R ∧ Z R := by
    intro m
    induction m with
    | zero =>
      intro i hm hi a ha
      obtain rfl : i = n := by omega
      exact h1 a ha
    | succ m ih =>
      intro i hm hi a ha
      rcases h2 i a (by omega) ha with h | ⟨b, hb, h⟩
      · exact h
      · obtain ⟨R, hR, hZ⟩ := ih (i + 1) (by omega) (by omega) b hb
        exact ⟨R, h R hR, hZ⟩
  simpa using key n 0 (by omega) (by omega) a ha
end Go.Proofs.Ytmndnegpclaidaa.Q
namespace Go.Proofs.Ytmndnegpclaidaa.Q
open Go.RowKit Go.Proofs.Ytmndnegpclaidaa.P Go.Proofs.YtmndnegpclaidaaW.PrintWords Go.Proofs.YtmndnegpclaidaaW.PrintLast Go.Proofs.YtmndnegpclaidaaW.PrintMore

/-- n marks from k on. -/
def marks (n : Nat) (k : Int) : List Int := (List.range n).map fun (i : Nat) => (k + (i : Int)) % 256
theorem marks_length (n : Nat) (k : Int) : (marks n k).length = n := by simp [marks]
theorem rd_marks (n : Nat) (k : Int) (i : Nat) (h : i < n) : rd (marks n k) i = (k + i) % 256 := by
  simp [Go.Proofs.YtmndnegpclaidaaW.PrintWords.rd, marks, h]
theorem mark_set (xs : List Int) (k : Int) (i : Nat) (h : i < xs.length) : (marks i k ++ xs.drop i).set i ((k + i) % 256) = marks (i + 1) k ++ xs.drop (i + 1) := by
  rw [List.set_append, if_neg (by rw [marks_length]; omega), marks_length, Nat.sub_self, List.drop_eq_getElem_cons h, List.set_cons_zero]
  simp [marks, List.range_succ]
theorem mark_loop (xs : List Int) (k0 : Int) (hk : 0 ≤ k0) (hk1 : k0 + xs.length ≤ 9223372036854775807) (n : Nat) : ∀ (i : Nat), i ≤ xs.length → xs.length - i = n →
    Ev (fun k => laws_markByteS.l0 k (marks i k0 ++ xs.drop i) (k0 + i) i) (k0 + xs.length, marks xs.length k0) := by
  induction n with
  | zero =>
    intro i hi hn
    apply evPre
    simp only [laws_markByteS.l0]
    obtain rfl : i = xs.length := by omega
    refine evN (by simp [marks_length]) (evC (Ev.now _) ?_)
    simp
  | succ n ih =>
    intro i hi hn
    have ih := ih (i + 1) (by omega) (by omega)
    rw [show ((i + 1 : Nat) : Int) = (i : Int) + 1 from by omega] at ih
    apply evPre
    simp only [laws_markByteS.l0]
    refine evP (by simp [marks_length]; omega) (evP (by omega) ?_)
    rw [Int.toNat_natCast, mark_set xs k0 i (by omega), w64 (n := k0 + (i : Int) + 1) (by omega) (by omega), w64 (n := (i : Int) + 1) (by omega) (by omega), Int.add_assoc]
    exact ih
theorem markByteS_ev (xs : List Int) (k0 : Int) (hk : 0 ≤ k0) (hk1 : k0 + xs.length ≤ 9223372036854775807) : Ev (fun k => laws_markByteS.f k xs k0) (k0 + xs.length, marks xs.length k0) := by
  have h := mark_loop xs k0 hk hk1 xs.length 0 (by omega) (by omega)
  simpa [laws_markByteS.f, marks] using h
theorem held_loop (m : Nat) (k0 : Int) (hk : 0 ≤ k0) (hk1 : k0 + m ≤ 9223372036854775807) (n : Nat) : ∀ (i : Nat), i ≤ m → m - i = n →
    Ev (fun k => laws_heldByteS.l0 k (marks m k0) (k0 + i) i) (k0 + m) := by
  induction n with
  | zero =>
    intro i hi hn
    apply evPre
    simp only [laws_heldByteS.l0]
    obtain rfl : i = m := by omega
    exact evN (by simp [marks_length]) (Ev.now _)
  | succ n ih =>
    intro i hi hn
    have ih := ih (i + 1) (by omega) (by omega)
    rw [show ((i + 1 : Nat) : Int) = (i : Int) + 1 from by omega] at ih
    apply evPre
    simp only [laws_heldByteS.l0]
    refine evP (by simp [marks_length]; omega) (evP (by omega) (evP (rd_marks m k0 i (by omega)) ?_))
    rw [w64 (n := k0 + (i : Int) + 1) (by omega) (by omega), w64 (n := (i : Int) + 1) (by omega) (by omega), Int.add_assoc]
    exact ih
theorem heldByteS_ev (m : Nat) (k0 : Int) (hk : 0 ≤ k0) (hk1 : k0 + m ≤ 9223372036854775807) : Ev (fun k => laws_heldByteS.f k (marks m k0) k0) (k0 + m) := by
  have h := held_loop m k0 hk hk1 m 0 (by omega) (by omega)
  simpa [laws_heldByteS.f] using h
end Go.Proofs.Ytmndnegpclaidaa.Q
namespace Go.Proofs.Ytmndnegpclaidaa.Q
open Go.RowKit Go.Proofs.Ytmndnegpclaidaa.P Go.Proofs.YtmndnegpclaidaaW.PrintWords Go.Proofs.YtmndnegpclaidaaW.PrintLast Go.Proofs.YtmndnegpclaidaaW.PrintMore

def iEnt (x : S93) : S82 := ⟨x.f0, x.f1⟩
def iAttr (x : S95) : S90 := ⟨x.f0, x.f1⟩
theorem nxt (i : Nat) (n : Nat) (hi : i < n) (hn : n ≤ 9223372036854775807) : wrap64 ((i : Int) + 1) = ((i + 1 : Nat) : Int) := by
  rw [w64 (by omega) (by omega)]; omega
theorem toEntS_ev (l : List S93) (hl : l.length ≤ 11728124029610) : Ev (fun k => laws_toEntS.f k l) (l.map iEnt) := by
  unfold laws_toEntS.f
  refine evP (by omega) (evP (by omega) ?_)
  rw [Int.toNat_natCast]
  refine ev_copy (fun k ys i => laws_toEntS.l0 k l ys i) l iEnt _ (fun ys => ?_) (fun i hi ys hy R h => ?_)
  · apply evPre
    simp only [laws_toEntS.l0]
    exact evN (by omega) (Ev.now _)
  · apply evPre
    simp only [laws_toEntS.l0, laws_toEnt.f, Option.bind_some]
    refine evP (by omega) (evP (by omega) (evP (by omega) ?_))
    rw [nxt i l.length hi (by omega), Int.toNat_natCast]
    simp only [rd_T93, getD_at l _ i hi]
    exact h
theorem toAttrS_ev (l : List S95) (hl : l.length ≤ 8796093022208) : Ev (fun k => laws_toAttrS.f k l) (l.map iAttr) := by
  unfold laws_toAttrS.f
  refine evP (by omega) (evP (by omega) ?_)
  rw [Int.toNat_natCast]
  refine ev_copy (fun k ys i => laws_toAttrS.l0 k l ys i) l iAttr _ (fun ys => ?_) (fun i hi ys hy R h => ?_)
  · apply evPre
    simp only [laws_toAttrS.l0]
    exact evN (by omega) (Ev.now _)
  · apply evPre
    simp only [laws_toAttrS.l0, laws_toAttr.f, Option.bind_some]
    refine evP (by omega) (evP (by omega) (evP (by omega) ?_))
    rw [nxt i l.length hi (by omega), Int.toNat_natCast]
    simp only [rd_T95, getD_at l _ i hi]
    exact h
theorem toInode_ev (a b c : Int) (d : List Int) (e : List S93) (t : List S95) (hd : d.length ≤ 1048576) (he : e.length ≤ 1048576) (ht : t.length ≤ 1048576) :
    Ev (fun k => laws_toInode.f k a b c d e t) (a, b, c, d, e.map iEnt, t.map iAttr) := by
  unfold laws_toInode.f
  exact Ev.bind (toByteS_ev d (by omega)) (Ev.bind (toEntS_ev e (by omega)) (Ev.bind (toAttrS_ev t (by omega)) (Ev.now _)))
theorem eqEntS_refl (l : List S82) (hl : l.length ≤ 9223372036854775807) : Ev (fun k => laws_eqEntS.f k l l) true := by
  unfold laws_eqEntS.f
  refine evP rfl (ev_scan (fun k i => laws_eqEntS.l0 k l l i) l.length true ?_ (fun i hi h => ?_))
  · apply evPre
    simp only [laws_eqEntS.l0]
    exact evN (by omega) (Ev.now _)
  · apply evPre
    simp only [laws_eqEntS.l0, laws_eqEnt.f, if_true, Option.bind_some]
    refine evP (by omega) (evP (by omega) (evP (by omega) ?_))
    rw [nxt i l.length hi hl]
    exact h
theorem eqAttrS_refl (l : List S90) (hl : l.length ≤ 9223372036854775807) : Ev (fun k => laws_eqAttrS.f k l l) true := by
  unfold laws_eqAttrS.f
  refine evP rfl (ev_scan (fun k i => laws_eqAttrS.l0 k l l i) l.length true ?_ (fun i hi h => ?_))
  · apply evPre
    simp only [laws_eqAttrS.l0]
    exact evN (by omega) (Ev.now _)
  · apply evPre
    simp only [laws_eqAttrS.l0, laws_eqAttr.f, if_true, Option.bind_some]
    refine evP (by omega) (evP (by omega) (evP (by omega) ?_))
    rw [nxt i l.length hi hl]
    exact h
theorem eqInode_refl (a b c : Int) (d : List Int) (e : List S82) (t : List S90) (hd : d.length ≤ 9223372036854775807) (he : e.length ≤ 9223372036854775807) (ht : t.length ≤ 9223372036854775807) :
    Ev (fun k => laws_eqInode.f k a b c d e t a b c d e t) true := by
  unfold laws_eqInode.f
  refine evP rfl (evP rfl (evP rfl (Ev.bind (eqByteS_ev d d hd) (evP (by simp) (Ev.bind (eqEntS_refl e he) (evP rfl (Ev.bind (eqAttrS_refl t ht) (evP rfl (Ev.now _)))))))))

/-- What is left of a size, and is not below 0, bounds what was counted. -/
theorem szByteS_ev (d : List Int) (n : Int) (h0 : 0 ≤ n) (h1 : n ≤ 1048576) (hd : d.length ≤ 9223372036854775807) : ∃ R, laws_szByteS.f d n = some R ∧ (0 ≤ R → R = n - d.length) ∧ R ≤ n := by
  unfold laws_szByteS.f
  rw [w64 (by omega) (by omega)]
  by_cases h : n - (d.length : Int) < 0
  · rw [if_pos h]; exact ⟨_, rfl, fun h => by omega, by omega⟩
  · rw [if_neg h]; exact ⟨_, rfl, fun _ => rfl, by omega⟩
def entSz (l : List S93) : Nat := (l.map fun e => e.f0.size).sum
def attrSz (l : List S95) : Nat := (l.map fun e => e.f0.size + e.f1.size).sum
theorem sum_take {α : Type} (f : α → Nat) (l : List α) (i : Nat) (hi : i < l.length) : ((l.take (i + 1)).map f).sum = ((l.take i).map f).sum + f l[i] := by
  rw [List.take_succ_eq_append_getElem hi, List.map_append, List.sum_append]; simp
theorem szEntS_ev (l : List S93) (n : Int) (h0 : 0 ≤ n) (h1 : n ≤ 1048576) (hl : l.length ≤ 9223372036854775807) (hg : ∀ e ∈ l, e.f0.size ≤ 9223372036854775807) :
    ∃ R, Ev (fun k => laws_szEntS.f k l n) R ∧ (0 ≤ R → R = n - l.length - entSz l) ∧ R ≤ n := by
  unfold laws_szEntS.f
  rw [w64 (by omega) (by omega)]
  by_cases h : n - (l.length : Int) < 0
  · exact ⟨-1, evP h (Ev.now _), fun h => by omega, by omega⟩
  · obtain ⟨R, hR, hZ⟩ := ev_carry (fun k a i => laws_szEntS.l0 k l a i) l.length (fun i a => 0 ≤ a ∧ a = n - l.length - ((l.take i).map fun e => e.f0.size).sum) (fun R => (0 ≤ R → R = n - l.length - entSz l) ∧ R ≤ n)
      (fun a ha => ⟨a, by
        apply evPre
        simp only [laws_szEntS.l0]
        exact evN (by omega) (Ev.now _), fun _ => by rw [ha.2, List.take_length]; rfl, by omega⟩)
      (fun i a hi ha => by
        have hm := hg l[i] (List.getElem_mem hi)
        have hs := sum_take (fun e : S93 => e.f0.size) l i hi
        by_cases hlt : a - (l[i].f0.size : Int) < 0
        · refine .inl ⟨-1, ?_, fun h => by omega, by omega⟩
          apply evPre
          simp only [laws_szEntS.l0, laws_szEnt.f, rd_T93, getD_at l _ i hi]
          rw [w64 (n := a - (l[i].f0.size : Int)) (by omega) (by omega), if_pos hlt]
          simp only [Option.bind_some]
          exact evP (by omega) (evP (by omega) (evP (by omega) (Ev.now _)))
        · refine .inr ⟨a - (l[i].f0.size : Int), ⟨by omega, by rw [hs]; omega⟩, fun R h => ?_⟩
          apply evPre
          simp only [laws_szEntS.l0, laws_szEnt.f, rd_T93, getD_at l _ i hi]
          rw [w64 (n := a - (l[i].f0.size : Int)) (by omega) (by omega), if_neg hlt]
          simp only [Option.bind_some]
          refine evP (by omega) (evP (by omega) (evN (by omega) ?_))
          rw [nxt i l.length hi hl]
          exact h) (n - l.length) ⟨by omega, by simp⟩
    exact ⟨R, evN h hR, hZ⟩
theorem szAttrS_ev (l : List S95) (n : Int) (h0 : 0 ≤ n) (h1 : n ≤ 1048576) (hl : l.length ≤ 9223372036854775807) (hg : ∀ e ∈ l, e.f0.size ≤ 9223372036854775807 ∧ e.f1.size ≤ 9223372036854775807) :
    ∃ R, Ev (fun k => laws_szAttrS.f k l n) R ∧ (0 ≤ R → R = n - l.length - attrSz l) ∧ R ≤ n := by
  unfold laws_szAttrS.f
  rw [w64 (by omega) (by omega)]
  by_cases h : n - (l.length : Int) < 0
  · exact ⟨-1, evP h (Ev.now _), fun h => by omega, by omega⟩
  · obtain ⟨R, hR, hZ⟩ := ev_carry (fun k a i => laws_szAttrS.l0 k l a i) l.length (fun i a => 0 ≤ a ∧ a = n - l.length - ((l.take i).map fun e => e.f0.size + e.f1.size).sum) (fun R => (0 ≤ R → R = n - l.length - attrSz l) ∧ R ≤ n)
      (fun a ha => ⟨a, by
        apply evPre
        simp only [laws_szAttrS.l0]
        exact evN (by omega) (Ev.now _), fun _ => by rw [ha.2, List.take_length]; rfl, by omega⟩)
      (fun i a hi ha => by
        have hm := hg l[i] (List.getElem_mem hi)
        have hs := sum_take (fun e : S95 => e.f0.size + e.f1.size) l i hi
        by_cases hlt : a - (l[i].f0.size : Int) < 0
        · refine .inl ⟨-1, ?_, fun h => by omega, by omega⟩
          apply evPre
          simp only [laws_szAttrS.l0, laws_szAttr.f, rd_T95, getD_at l _ i hi]
          rw [w64 (n := a - (l[i].f0.size : Int)) (by omega) (by omega), if_pos hlt]
          simp only [Option.bind_some]
          exact evP (by omega) (evP (by omega) (evP (by omega) (Ev.now _)))
        · by_cases hlt2 : a - (l[i].f0.size : Int) - (l[i].f1.size : Int) < 0
          · refine .inl ⟨-1, ?_, fun h => by omega, by omega⟩
            apply evPre
            simp only [laws_szAttrS.l0, laws_szAttr.f, rd_T95, getD_at l _ i hi]
            rw [w64 (n := a - (l[i].f0.size : Int)) (by omega) (by omega), if_neg hlt, w64 (n := a - (l[i].f0.size : Int) - (l[i].f1.size : Int)) (by omega) (by omega), if_pos hlt2]
            simp only [Option.bind_some]
            exact evP (by omega) (evP (by omega) (evP (by omega) (Ev.now _)))
          · refine .inr ⟨a - (l[i].f0.size : Int) - (l[i].f1.size : Int), ⟨by omega, by rw [hs]; omega⟩, fun R h => ?_⟩
            apply evPre
            simp only [laws_szAttrS.l0, laws_szAttr.f, rd_T95, getD_at l _ i hi]
            rw [w64 (n := a - (l[i].f0.size : Int)) (by omega) (by omega), if_neg hlt, w64 (n := a - (l[i].f0.size : Int) - (l[i].f1.size : Int)) (by omega) (by omega), if_neg hlt2]
            simp only [Option.bind_some]
            refine evP (by omega) (evP (by omega) (evN (by omega) ?_))
            rw [nxt i l.length hi hl]
            exact h) (n - l.length) ⟨by omega, by simp⟩
    exact ⟨R, evN h hR, hZ⟩
def inodeSz (d : List Int) (e : List S93) (t : List S95) : Nat := d.length + e.length + entSz e + t.length + attrSz t
theorem szInode_ev (a b c : Int) (d : List Int) (e : List S93) (t : List S95) (n : Int) (h0 : 0 ≤ n) (h1 : n ≤ 1048576) (hd : d.length ≤ 9223372036854775807) (he : e.length ≤ 9223372036854775807) (ht : t.length ≤ 9223372036854775807)
    (ge : ∀ x ∈ e, x.f0.size ≤ 9223372036854775807) (gt : ∀ x ∈ t, x.f0.size ≤ 9223372036854775807 ∧ x.f1.size ≤ 9223372036854775807) :
    ∃ R, Ev (fun k => laws_szInode.f k a b c d e t n) R ∧ (0 ≤ R → R = n - inodeSz d e t) ∧ R ≤ n := by
  unfold laws_szInode.f
  obtain ⟨R1, e1, z1, l1⟩ := szByteS_ev d n h0 h1 hd
  simp only [e1, Option.bind_some]
  by_cases c1 : R1 < 0
  · exact ⟨-1, evP c1 (Ev.now _), fun h => by omega, by omega⟩
  obtain ⟨R2, e2, z2, l2⟩ := szEntS_ev e R1 (by omega) (by omega) he ge
  by_cases c2 : R2 < 0
  · exact ⟨-1, evN c1 (Ev.bind e2 (evP c2 (Ev.now _))), fun h => by omega, by omega⟩
  obtain ⟨R3, e3, z3, l3⟩ := szAttrS_ev t R2 (by omega) (by omega) ht gt
  by_cases c3 : R3 < 0
  · exact ⟨-1, evN c1 (Ev.bind e2 (evN c2 (Ev.bind e3 (evP c3 (Ev.now _))))), fun h => by omega, by omega⟩
  · refine ⟨R3, evN c1 (Ev.bind e2 (evN c2 (Ev.bind e3 (evN c3 (Ev.now _))))), fun h => ?_, by omega⟩
    have := z1 (by omega)
    have := z2 (by omega)
    have := z3 (by omega)
    unfold inodeSz
    omega
end Go.Proofs.Ytmndnegpclaidaa.Q
namespace Go.Proofs.Ytmndnegpclaidaa.Q
open Go.RowKit Go.Proofs.Ytmndnegpclaidaa.P Go.Proofs.YtmndnegpclaidaaW.PrintWords Go.Proofs.YtmndnegpclaidaaW.PrintLast Go.Proofs.YtmndnegpclaidaaW.PrintMore

/-- From the end to the begin. -/
theorem down {n : Nat} {P : Nat → Prop} (h1 : P n) (h2 : ∀ i, i < n → P (i + 1) → P i) : P 0 := by
  have key : ∀ m i : Nat, n - i = m → i ≤ n → P i := by
    intro m
    induction m with
    | zero => intro i hm hi; obtain rfl : i = n := by omega
              exact h1
    | succ m ih => intro i hm hi; exact h2 i (by omega) (ih (i + 1) (by omega) (by omega))
  exact key n 0 (by omega) (by omega)

def iInode (x : S29) : S40 := ⟨x.f0, x.f1, x.f2, x.f3, x.f4.map iEnt, x.f5.map iAttr⟩
/-- An inode whose lists and names are of a size that one can hold. -/
def InoB (x : S29) : Prop := x.f3.length ≤ 1048576 ∧ x.f4.length ≤ 1048576 ∧ x.f5.length ≤ 1048576
theorem toInodeS_ev (l : List S29) (hl : l.length ≤ 1048576) (hb : ∀ x ∈ l, InoB x) : Ev (fun k => laws_toInodeS.f k l) (l.map iInode) := by
  unfold laws_toInodeS.f
  refine evP (by omega) (evP (by omega) ?_)
  rw [Int.toNat_natCast]
  refine ev_copy (fun k ys i => laws_toInodeS.l0 k l ys i) l iInode _ (fun ys => ?_) (fun i hi ys hy R h => ?_)
  · apply evPre
    simp only [laws_toInodeS.l0]
    exact evN (by omega) (Ev.now _)
  · have hB := hb l[i] (List.getElem_mem hi)
    have ht := toInode_ev l[i].f0 l[i].f1 l[i].f2 l[i].f3 l[i].f4 l[i].f5 hB.1 hB.2.1 hB.2.2
    apply evPre
    simp only [laws_toInodeS.l0, rd_T29, getD_at l _ i hi]
    refine evP (by omega) (evP (by omega) (Ev.bind ht (evP (by omega) ?_)))
    rw [nxt i l.length hi (by omega), Int.toNat_natCast]
    exact h
theorem toTab_ev (l : List S29) (n : Int) (hl : l.length ≤ 1048576) (hb : ∀ x ∈ l, InoB x) : Ev (fun k => laws_toTab.f k l n) (l.map iInode, n) := by
  unfold laws_toTab.f
  exact Ev.bind (toInodeS_ev l hl hb) (Ev.now _)
theorem eqInodeS_refl (l : List S40) (hl : l.length ≤ 9223372036854775807) (hb : ∀ x ∈ l, x.f3.length ≤ 9223372036854775807 ∧ x.f4.length ≤ 9223372036854775807 ∧ x.f5.length ≤ 9223372036854775807) : Ev (fun k => laws_eqInodeS.f k l l) true := by
  unfold laws_eqInodeS.f
  refine evP rfl ?_
  refine ev_scan (fun k i => laws_eqInodeS.l0 k l l i) l.length true ?_ (fun i hi h => ?_)
  · apply evPre
    simp only [laws_eqInodeS.l0]
    exact evN (by omega) (Ev.now _)
  · have hB := hb l[i] (List.getElem_mem hi)
    apply evPre
    simp only [laws_eqInodeS.l0, rd_T40, getD_at l _ i hi]
    refine evP (by omega) (evP (by omega) (evP (by omega) (Ev.bind (eqInode_refl _ _ _ _ _ _ hB.1 hB.2.1 hB.2.2) (evP rfl ?_))))
    rw [nxt i l.length hi hl]
    exact h
theorem eqTab_refl (l : List S40) (n : Int) (hl : l.length ≤ 9223372036854775807) (hb : ∀ x ∈ l, x.f3.length ≤ 9223372036854775807 ∧ x.f4.length ≤ 9223372036854775807 ∧ x.f5.length ≤ 9223372036854775807) : Ev (fun k => laws_eqTab.f k l n l n) true := by
  unfold laws_eqTab.f
  exact Ev.bind (eqInodeS_refl l hl hb) (evP rfl (evP rfl (Ev.now _)))
theorem iInode_b (l : List S29) (hb : ∀ x ∈ l, InoB x) : ∀ x ∈ l.map iInode, x.f3.length ≤ 9223372036854775807 ∧ x.f4.length ≤ 9223372036854775807 ∧ x.f5.length ≤ 9223372036854775807 := by
  intro x hx
  obtain ⟨y, hy, rfl⟩ := List.mem_map.1 hx
  have := hb y hy
  unfold InoB at this
  simp only [iInode, List.length_map]
  omega

/-- An inode that could be read. -/
def InoM (x : S29) : Prop := x.f3.length ≤ 9223372036854775807 ∧ x.f4.length ≤ 9223372036854775807 ∧ x.f5.length ≤ 9223372036854775807 ∧ (∀ e ∈ x.f4, e.f0.size ≤ 9223372036854775807) ∧ (∀ e ∈ x.f5, e.f0.size ≤ 9223372036854775807 ∧ e.f1.size ≤ 9223372036854775807)
def inoSz (x : S29) : Nat := inodeSz x.f3 x.f4 x.f5
def tabSz (l : List S29) : Nat := l.length + (l.map inoSz).sum
theorem szInodeS_ev (l : List S29) (n : Int) (h0 : 0 ≤ n) (h1 : n ≤ 1048576) (hl : l.length ≤ 9223372036854775807) (hg : ∀ x ∈ l, InoM x) :
    ∃ R, Ev (fun k => laws_szInodeS.f k l n) R ∧ (0 ≤ R → R = n - tabSz l) ∧ R ≤ n := by
  unfold laws_szInodeS.f
  rw [w64 (by omega) (by omega)]
  by_cases h : n - (l.length : Int) < 0
  · exact ⟨-1, evP h (Ev.now _), fun h => by omega, by omega⟩
  · obtain ⟨R, hR, hZ⟩ := ev_carry (fun k a i => laws_szInodeS.l0 k l a i) l.length (fun i a => 0 ≤ a ∧ a ≤ n ∧ a = n - l.length - ((l.take i).map inoSz).sum) (fun R => (0 ≤ R → R = n - tabSz l) ∧ R ≤ n)
      (fun a ha => ⟨a, by
        apply evPre
        simp only [laws_szInodeS.l0]
        exact evN (by omega) (Ev.now _), fun _ => by rw [ha.2.2, List.take_length]; unfold tabSz; omega, by omega⟩)
      (fun i a hi ha => by
        obtain ⟨m1, m2, m3, m4, m5⟩ := hg l[i] (List.getElem_mem hi)
        have hs := sum_take inoSz l i hi
        obtain ⟨R1, e1, z1, l1⟩ := szInode_ev l[i].f0 l[i].f1 l[i].f2 l[i].f3 l[i].f4 l[i].f5 a ha.1 (by omega) m1 m2 m3 m4 m5
        by_cases hlt : R1 < 0
        · refine .inl ⟨-1, ?_, fun h => by omega, by omega⟩
          apply evPre
          simp only [laws_szInodeS.l0, rd_T29, getD_at l _ i hi]
          exact evP (by omega) (evP (by omega) (Ev.bind e1 (evP hlt (Ev.now _))))
        · have z1 := z1 (by omega)
          refine .inr ⟨R1, ⟨by omega, by omega, by rw [hs]; unfold inoSz at *; omega⟩, fun R h => ?_⟩
          apply evPre
          simp only [laws_szInodeS.l0, rd_T29, getD_at l _ i hi]
          refine evP (by omega) (evP (by omega) (Ev.bind e1 (evN hlt ?_)))
          rw [nxt i l.length hi hl]
          exact h) (n - l.length) ⟨by omega, by omega, by simp⟩
    exact ⟨R, evN h hR, hZ⟩
theorem szTab_ev (l : List S29) (nx n : Int) (h0 : 0 ≤ n) (h1 : n ≤ 1048576) (hl : l.length ≤ 9223372036854775807) (hg : ∀ x ∈ l, InoM x) :
    ∃ R, Ev (fun k => laws_szTab.f k l nx n) R ∧ (0 ≤ R → R = n - tabSz l) ∧ R ≤ n := by
  obtain ⟨R, e, z, h⟩ := szInodeS_ev l n h0 h1 hl hg
  unfold laws_szTab.f
  by_cases c : R < 0
  · exact ⟨-1, Ev.bind e (evP c (Ev.now _)), fun h => by omega, by omega⟩
  · exact ⟨R, Ev.bind e (evN c (Ev.now _)), z, h⟩
theorem mem_le_sum {α : Type} (f : α → Nat) (l : List α) (x : α) (h : x ∈ l) : f x ≤ (l.map f).sum := by
  induction l with
  | nil => cases h
  | cons y l ih =>
    rw [List.map_cons, List.sum_cons]
    rcases List.mem_cons.1 h with rfl | h
    · omega
    · have := ih h; omega
/-- What is known of an inode of a table that is small enough. -/
structure InoS (x : S29) : Prop where
  d : x.f3.length ≤ 1048576
  e : x.f4.length ≤ 1048576
  t : x.f5.length ≤ 1048576
  en : ∀ y ∈ x.f4, y.f0.size ≤ 1048576
  tn : ∀ y ∈ x.f5, y.f0.size ≤ 1048576 ∧ y.f1.size ≤ 1048576
theorem inoS_of (x : S29) (h : inoSz x ≤ 1048576) : InoS x := by
  unfold inoSz inodeSz at h
  refine ⟨by omega, by omega, by omega, fun y hy => ?_, fun y hy => ?_⟩
  · have := mem_le_sum (fun e : S93 => e.f0.size) x.f4 y hy
    unfold entSz at h
    omega
  · have := mem_le_sum (fun e : S95 => e.f0.size + e.f1.size) x.f5 y hy
    unfold attrSz at h
    omega
theorem tab_small (l : List S29) (h : tabSz l ≤ 1048576) : l.length ≤ 1048576 ∧ ∀ x ∈ l, InoS x := by
  unfold tabSz at h
  refine ⟨by omega, fun x hx => inoS_of x ?_⟩
  have := mem_le_sum inoSz l x hx
  omega
end Go.Proofs.Ytmndnegpclaidaa.Q
namespace Go.Proofs.Ytmndnegpclaidaa.Q
open Go.RowKit Go.Proofs.Ytmndnegpclaidaa.P Go.Proofs.Ytmndnegpclaidaa.Kinds Go.Proofs.YtmndnegpclaidaaW.PrintWords Go.Proofs.YtmndnegpclaidaaW.PrintLast Go.Proofs.YtmndnegpclaidaaW.PrintMore

theorem good_tab (l : List S29) (h : ∀ x ∈ l, g29 x) : ∀ x ∈ l, InoM x := by
  intro x hx
  obtain ⟨_, _, _, ⟨hd, _⟩, ⟨he, ge⟩, ⟨ht, gt⟩⟩ := h x hx
  have hM : maxLen = 9223372036854775807 := rfl
  simp only [hM] at *
  exact ⟨hd, he, ht, fun e h => (ge e h).1, fun e h => gt e h⟩
theorem inoB_of (l : List S29) (h : ∀ x ∈ l, InoS x) : ∀ x ∈ l, InoB x := fun x hx => ⟨(h x hx).d, (h x hx).e, (h x hx).t⟩
/-- A small table's copy: its lists. -/
theorem small_map (l : List S29) (h : ∀ x ∈ l, InoS x) : ∀ x ∈ l.map iInode, x.f3.length ≤ 1048576 ∧ x.f4.length ≤ 1048576 ∧ x.f5.length ≤ 1048576 := by
  intro x hx
  obtain ⟨y, hy, rfl⟩ := List.mem_map.1 hx
  have := h y hy
  simp only [iInode, List.length_map]
  exact ⟨this.d, this.e, this.t⟩
end Go.Proofs.Ytmndnegpclaidaa.Q
namespace Go.Proofs.Ytmndnegpclaidaa.Q
open Go.RowKit Go.Proofs.Ytmndnegpclaidaa.P Go.Proofs.YtmndnegpclaidaaW.PrintWords Go.Proofs.YtmndnegpclaidaaW.PrintLast Go.Proofs.YtmndnegpclaidaaW.PrintMore

theorem textSize (l : List Int) : (strOfNums l).size = l.length := by
  simp [strOfNums, ByteArray.size]
theorem mtext_loop (m : Nat) : ∀ (n : Int) (s : ByteArray), 0 ≤ n → n ≤ 9223372036854775807 → n < 10 ^ m → s.size + m ≤ 1000 → ∃ r, Ev (fun k => laws_markText.l0 k n s) r := by
  induction m with
  | zero =>
    intro n s h0 _ h1 hs
    refine ⟨(⟨#[109]⟩ : ByteArray) ++ s, evPre ?_⟩
    simp only [laws_markText.l0]
    exact evN (by omega) (evP (by omega) (Ev.now _))
  | succ m ih =>
    intro n s h0 hM h1 hs
    by_cases hn : n > 0
    · have hd : wrap64 (Int.tdiv n 10) = n / 10 := by rw [Int.tdiv_eq_ediv_of_nonneg h0]; exact w64 (by omega) (by omega)
      obtain ⟨r, hr⟩ := ih (n / 10) ((strOfNums [wrap64 (48 + Int.tmod n 10) % 256]) ++ s) (by omega) (by omega) (by rw [Int.pow_succ] at h1; omega) (by rw [ByteArray.size_append, textSize]; simp; omega)
      refine ⟨r, evPre ?_⟩
      simp only [laws_markText.l0, Option.bind_some, hd]
      exact evP hn (evP (by rw [textSize]; simp; omega) hr)
    · refine ⟨(⟨#[109]⟩ : ByteArray) ++ s, evPre ?_⟩
      simp only [laws_markText.l0]
      exact evN hn (evP (by omega) (Ev.now _))
theorem mtext (n : Int) (h0 : 1 ≤ n) (h1 : n ≤ 9223372036854775807) : ∃ r, Ev (fun k => laws_markText.f k n) r := by
  obtain ⟨r, h⟩ := mtext_loop 19 n ⟨#[]⟩ (by omega) h1 (by omega) (by decide)
  exact ⟨r, by unfold laws_markText.f; exact evN (by omega) h⟩
theorem take_set_at {α : Type} (y : List α) (i : Nat) (v : α) (h : i < y.length) : (y.set i v).take (i + 1) = y.take i ++ [v] := by
  rw [List.take_succ_eq_append_getElem (by simpa using h), List.getElem_set_self, List.take_set_of_le (Nat.le_refl i)]

/-- The names and numbers of a directory's entries hold the marks from a on. -/
def HeldE : Int → List S82 → Prop
  | _, [] => True
  | a, x :: l => Ev (fun k => laws_markText.f k a) x.f0 ∧ x.f1 = a + 1 ∧ HeldE (a + 2) l
/-- The same, for attributes. -/
def HeldA : Int → List S90 → Prop
  | _, [] => True
  | a, x :: l => Ev (fun k => laws_markText.f k a) x.f0 ∧ Ev (fun k => laws_markText.f k (a + 1)) x.f1 ∧ HeldA (a + 2) l
theorem heldE_at (l : List S82) : ∀ (a : Int) (i : Nat) (h : i < l.length), HeldE a l → Ev (fun k => laws_markText.f k (a + 2 * i)) l[i].f0 ∧ l[i].f1 = a + 2 * i + 1 := by
  induction l with
  | nil => intro a i h; simp at h
  | cons x l ih =>
    intro a i h hh
    cases i with
    | zero => exact ⟨by simpa using hh.1, by simpa using hh.2.1⟩
    | succ i =>
      obtain ⟨h1, h2⟩ := ih (a + 2) i (by simpa using h) hh.2.2
      rw [show a + 2 + 2 * (i : Int) = a + 2 * ((i + 1 : Nat) : Int) from by omega] at h1 h2
      exact ⟨h1, h2⟩
theorem heldA_at (l : List S90) : ∀ (a : Int) (i : Nat) (h : i < l.length), HeldA a l → Ev (fun k => laws_markText.f k (a + 2 * i)) l[i].f0 ∧ Ev (fun k => laws_markText.f k (a + 2 * i + 1)) l[i].f1 := by
  induction l with
  | nil => intro a i h; simp at h
  | cons x l ih =>
    intro a i h hh
    cases i with
    | zero => exact ⟨by simpa using hh.1, by simpa using hh.2.1⟩
    | succ i =>
      obtain ⟨h1, h2⟩ := ih (a + 2) i (by simpa using h) hh.2.2
      rw [show a + 2 + 2 * (i : Int) = a + 2 * ((i + 1 : Nat) : Int) from by omega] at h1 h2
      exact ⟨h1, h2⟩
theorem heldEntS (l : List S82) (a : Int) (h0 : 1 ≤ a) (h1 : a + 2 * l.length ≤ 4611686018427387904) (hh : HeldE a l) : Ev (fun k => laws_heldEntS.f k l a) (a + 2 * l.length) := by
  have key := down (n := l.length) (P := fun i => Ev (fun k => laws_heldEntS.l0 k l (a + 2 * i) (i : Nat)) (a + 2 * l.length)) (by
      apply evPre
      simp only [laws_heldEntS.l0]
      exact evN (by omega) (Ev.now _)) (fun i hi h => by
      obtain ⟨g1, g2⟩ := heldE_at l a i hi hh
      have hrd : rd_T82 l (i : Int) = l[i] := getD_at l _ i hi
      apply evPre
      simp only [laws_heldEntS.l0, hrd]
      rw [w64 (n := a + 2 * (i : Int) + 1) (by omega) (by omega), w64 (n := a + 2 * (i : Int) + 1 + 1) (by omega) (by omega), nxt i l.length hi (by omega)]
      refine evP (by omega) (evP (by omega) (Ev.bind g1 (evP rfl (evP g2 ?_))))
      rw [show a + 2 * (i : Int) + 1 + 1 = a + 2 * ((i + 1 : Nat) : Int) from by omega]
      exact h)
  simpa [laws_heldEntS.f] using key
theorem heldAttrS (l : List S90) (a : Int) (h0 : 1 ≤ a) (h1 : a + 2 * l.length ≤ 4611686018427387904) (hh : HeldA a l) : Ev (fun k => laws_heldAttrS.f k l a) (a + 2 * l.length) := by
  have key := down (n := l.length) (P := fun i => Ev (fun k => laws_heldAttrS.l0 k l (a + 2 * i) (i : Nat)) (a + 2 * l.length)) (by
      apply evPre
      simp only [laws_heldAttrS.l0]
      exact evN (by omega) (Ev.now _)) (fun i hi h => by
      obtain ⟨g1, g2⟩ := heldA_at l a i hi hh
      have hrd : rd_T90 l (i : Int) = l[i] := getD_at l _ i hi
      apply evPre
      simp only [laws_heldAttrS.l0, hrd]
      rw [w64 (n := a + 2 * (i : Int) + 1) (by omega) (by omega), w64 (n := a + 2 * (i : Int) + 1 + 1) (by omega) (by omega), nxt i l.length hi (by omega)]
      refine evP (by omega) (evP (by omega) (Ev.bind g1 (evP rfl (Ev.bind g2 (evP rfl ?_)))))
      rw [show a + 2 * (i : Int) + 1 + 1 = a + 2 * ((i + 1 : Nat) : Int) from by omega]
      exact h)
  simpa [laws_heldAttrS.f] using key
theorem markEntS (l : List S82) (x : Int) (h0 : 1 ≤ x) (h1 : x + 2 * l.length ≤ 4611686018427387904) : ∃ r, Ev (fun k => laws_markEntS.f k l x) (x + 2 * l.length, r) ∧ r.length = l.length ∧ HeldE x r := by
  have key := down (n := l.length) (P := fun i => ∀ y : List S82, y.length = l.length → ∃ r, Ev (fun k => laws_markEntS.l0 k y (x + 2 * i) (i : Nat)) (x + 2 * l.length, y.take i ++ r) ∧ i + r.length = l.length ∧ HeldE (x + 2 * i) r) (by
      intro y hy
      refine ⟨[], evPre ?_, by simp, trivial⟩
      simp only [laws_markEntS.l0]
      refine evN (by omega) (evC (Ev.now _) ?_)
      rw [← hy, List.take_length, List.append_nil]) (by
      intro i hi h y hy
      obtain ⟨s, hs⟩ := mtext (x + 2 * i) (by omega) (by omega)
      obtain ⟨r, hr, hl, hh⟩ := h (((y.set i (⟨s, (rd_T82 y (i : Nat)).f1⟩ : S82)).set i (⟨(rd_T82 (y.set i (⟨s, (rd_T82 y (i : Nat)).f1⟩ : S82)) (i : Nat)).f0, x + 2 * i + 1⟩ : S82))) (by simp [hy])
      have e0 : (rd_T82 (y.set i (⟨s, (rd_T82 y (i : Nat)).f1⟩ : S82)) (i : Nat)).f0 = s := by rw [rd_T82, getD_at _ _ i (by simpa using (by omega : i < y.length)), List.getElem_set_self]
      have e1 := e0
      refine ⟨⟨s, x + 2 * i + 1⟩ :: r, evPre ?_, by simp; omega, hs, rfl, by rw [show x + 2 * (i : Int) + 2 = x + 2 * ((i + 1 : Nat) : Int) from by omega]; exact hh⟩
      simp only [laws_markEntS.l0, Option.bind_some]
      refine evP (by omega) (Ev.bind hs (evP (by omega) ?_))
      rw [w64 (n := x + 2 * (i : Int) + 1) (by omega) (by omega), w64 (n := x + 2 * (i : Int) + 1 + 1) (by omega) (by omega), nxt i l.length hi (by omega), show x + 2 * (i : Int) + 1 + 1 = x + 2 * ((i + 1 : Nat) : Int) from by omega]
      refine evC hr ?_
      rw [e1, take_set_at _ _ _ (by simp; omega), List.take_set_of_le (Nat.le_refl i), List.append_assoc]
      rfl)
  obtain ⟨r, hr, hl, hh⟩ := key l rfl
  exact ⟨r, by simpa [laws_markEntS.f] using hr, by omega, by simpa using hh⟩
theorem markAttrS (l : List S90) (x : Int) (h0 : 1 ≤ x) (h1 : x + 2 * l.length ≤ 4611686018427387904) : ∃ r, Ev (fun k => laws_markAttrS.f k l x) (x + 2 * l.length, r) ∧ r.length = l.length ∧ HeldA x r := by
  have key := down (n := l.length) (P := fun i => ∀ y : List S90, y.length = l.length → ∃ r, Ev (fun k => laws_markAttrS.l0 k y (x + 2 * i) (i : Nat)) (x + 2 * l.length, y.take i ++ r) ∧ i + r.length = l.length ∧ HeldA (x + 2 * i) r) (by
      intro y hy
      refine ⟨[], evPre ?_, by simp, trivial⟩
      simp only [laws_markAttrS.l0]
      refine evN (by omega) (evC (Ev.now _) ?_)
      rw [← hy, List.take_length, List.append_nil]) (by
      intro i hi h y hy
      obtain ⟨s, hs⟩ := mtext (x + 2 * i) (by omega) (by omega)
      obtain ⟨s2, hs2⟩ := mtext (x + 2 * i + 1) (by omega) (by omega)
      obtain ⟨r, hr, hl, hh⟩ := h (((y.set i (⟨s, (rd_T90 y (i : Nat)).f1⟩ : S90)).set i (⟨(rd_T90 (y.set i (⟨s, (rd_T90 y (i : Nat)).f1⟩ : S90)) (i : Nat)).f0, s2⟩ : S90))) (by simp [hy])
      have e1 : (rd_T90 (y.set i (⟨s, (rd_T90 y (i : Nat)).f1⟩ : S90)) (i : Nat)).f0 = s := by rw [rd_T90, getD_at _ _ i (by simpa using (by omega : i < y.length)), List.getElem_set_self]
      refine ⟨⟨s, s2⟩ :: r, evPre ?_, by simp; omega, hs, hs2, by rw [show x + 2 * (i : Int) + 2 = x + 2 * ((i + 1 : Nat) : Int) from by omega]; exact hh⟩
      simp only [laws_markAttrS.l0, Option.bind_some]
      rw [w64 (n := x + 2 * (i : Int) + 1) (by omega) (by omega), w64 (n := x + 2 * (i : Int) + 1 + 1) (by omega) (by omega), nxt i l.length hi (by omega), show x + 2 * (i : Int) + 1 + 1 = x + 2 * ((i + 1 : Nat) : Int) from by omega]
      refine evP (by omega) (Ev.bind hs (evP (by omega) (Ev.bind hs2 (evC hr ?_))))
      rw [e1, take_set_at _ _ _ (by simp; omega), List.take_set_of_le (Nat.le_refl i), List.append_assoc]
      rfl)
  obtain ⟨r, hr, hl, hh⟩ := key l rfl
  exact ⟨r, by simpa [laws_markAttrS.f] using hr, by omega, by simpa using hh⟩

/-- An inode's lists hold the marks from a on. -/
def HeldX (a : Int) (d : List Int) (e : List S82) (t : List S90) : Prop := d = marks d.length a ∧ HeldE (a + d.length) e ∧ HeldA (a + d.length + 2 * e.length) t
def inW (d : List Int) (e : List S82) (t : List S90) : Nat := d.length + 2 * e.length + 2 * t.length
theorem inW_of {d d' : List Int} {e e' : List S82} {t t' : List S90} (h1 : d'.length = d.length) (h2 : e'.length = e.length) (h3 : t'.length = t.length) : inW d' e' t' = inW d e t := by
  unfold inW; omega
end Go.Proofs.Ytmndnegpclaidaa.Q
namespace Go.Proofs.Ytmndnegpclaidaa.Q
open Go.RowKit Go.Proofs.Ytmndnegpclaidaa.P Go.Proofs.YtmndnegpclaidaaW.PrintWords Go.Proofs.YtmndnegpclaidaaW.PrintLast Go.Proofs.YtmndnegpclaidaaW.PrintMore

theorem markIno (a b c : Int) (d : List Int) (e : List S82) (t : List S90) (x : Int) (h0 : 1 ≤ x) (h1 : x + inW d e t ≤ 4611686018427387904) :
    ∃ d' e' t', Ev (fun k => laws_markInode.f k a b c d e t x) (x + inW d e t, d', e', t') ∧ d'.length = d.length ∧ e'.length = e.length ∧ t'.length = t.length ∧ HeldX x d' e' t' := by
  unfold inW at h1 ⊢
  have g1 := markByteS_ev d x (by omega) (by omega)
  obtain ⟨e', g2, l2, v2⟩ := markEntS e (x + d.length) (by omega) (by omega)
  obtain ⟨t', g3, l3, v3⟩ := markAttrS t (x + d.length + 2 * e.length) (by omega) (by omega)
  refine ⟨marks d.length x, e', t', ?_, marks_length _ _, l2, l3, by rw [marks_length], by rw [marks_length]; exact v2, by rw [marks_length, l2]; exact v3⟩
  unfold laws_markInode.f
  refine Ev.bind g1 (Ev.bind g2 (Ev.bind g3 (evC (Ev.now _) ?_)))
  rw [show x + ((d.length + 2 * e.length + 2 * t.length : Nat) : Int) = x + d.length + 2 * e.length + 2 * t.length from by omega]
end Go.Proofs.Ytmndnegpclaidaa.Q
namespace Go.Proofs.Ytmndnegpclaidaa.Q
open Go.RowKit Go.Proofs.Ytmndnegpclaidaa.P Go.Proofs.YtmndnegpclaidaaW.PrintWords Go.Proofs.YtmndnegpclaidaaW.PrintLast Go.Proofs.YtmndnegpclaidaaW.PrintMore

def rowW (x : S40) : Nat := 3 + inW x.f3 x.f4 x.f5
def rowsW (l : List S40) : Nat := (l.map rowW).sum
/-- A table's inodes hold the marks from a on. -/
def HeldT : Int → List S40 → Prop
  | _, [] => True
  | a, x :: l => (x.f0 = a ∧ x.f1 = a + 1 ∧ x.f2 = a + 2 ∧ HeldX (a + 3) x.f3 x.f4 x.f5) ∧ HeldT (a + rowW x) l
theorem markRows (l : List S40) : ∀ (x : Int), 1 ≤ x → x + rowsW l ≤ 4611686018427387904 → ∃ r, Ev (fun k => markR k l x) (x + rowsW l, r) ∧ r.length = l.length ∧ rowsW r = rowsW l ∧ HeldT x r := by
  induction l with
  | nil => intro x _ _; exact ⟨[], evC (Ev.now _) (by simp [rowsW]), rfl, rfl, trivial⟩
  | cons y l ih =>
    intro x h0 h1
    have hw : rowsW (y :: l) = rowW y + rowsW l := by simp [rowsW]
    rw [hw] at h1 ⊢
    obtain ⟨r, hr, hl, hW, hh⟩ := ih (x + rowW y) (by omega) (by omega)
    have hy : rowW y = 3 + (y.f3.length + 2 * y.f4.length + 2 * y.f5.length) := rfl
    have g1 := markByteS_ev y.f3 (x + 1 + 1 + 1) (by omega) (by omega)
    obtain ⟨e', g2, l2, v2⟩ := markEntS y.f4 (x + 1 + 1 + 1 + y.f3.length) (by omega) (by omega)
    obtain ⟨t', g3, l3, v3⟩ := markAttrS y.f5 (x + 1 + 1 + 1 + y.f3.length + 2 * y.f4.length) (by omega) (by omega)
    have hz : rowW ⟨x, x + 1, x + 1 + 1, marks y.f3.length (x + 1 + 1 + 1), e', t'⟩ = rowW y := by
      simp only [rowW, inW, marks_length, l2, l3]
    refine ⟨⟨x, x + 1, x + 1 + 1, marks y.f3.length (x + 1 + 1 + 1), e', t'⟩ :: r, ?_, by simp [hl], by simp only [rowsW, List.map_cons, List.sum_cons, hz] at hW ⊢; omega, ⟨rfl, rfl, by dsimp only; omega, ?_⟩, by rw [hz]; exact hh⟩
    · simp only [markR, markOne]
      rw [w64 (n := x + 1) (by omega) (by omega), w64 (n := x + 1 + 1) (by omega) (by omega), w64 (n := x + 1 + 1 + 1) (by omega) (by omega)]
      refine Ev.bind (Ev.bind g1 (Ev.bind g2 (Ev.bind g3 (Ev.now _)))) ?_
      rw [show x + 1 + 1 + 1 + (y.f3.length : Int) + 2 * y.f4.length + 2 * y.f5.length = x + rowW y from by omega]
      refine Ev.bind hr (evC (Ev.now _) ?_)
      rw [show x + ((rowW y + rowsW l : Nat) : Int) = x + rowW y + rowsW l from by omega]
    · rw [show x + 1 + 1 + 1 = x + 3 from by omega] at v2 v3 ⊢
      exact ⟨by rw [marks_length], by rw [marks_length]; exact v2, by rw [marks_length, l2]; exact v3⟩
theorem markTabS1 (l : List S40) (x : Int) (hl : l.length ≤ 1048577) (h0 : 1 ≤ x) (h1 : x + rowsW l ≤ 4611686018427387904) : ∃ r, Ev (fun k => laws_markInodeS.f k l x) (x + rowsW l, r) ∧ r.length = l.length ∧ rowsW r = rowsW l ∧ HeldT x r := by
  obtain ⟨r, hr, z⟩ := markRows l x h0 h1
  exact ⟨r, by unfold laws_markInodeS.f; exact evP (by omega) hr, z⟩
theorem markTabS (l : List S40) (x : Int) (hl : l.length ≤ 1048576) (h0 : 1 ≤ x) (h1 : x + rowsW l ≤ 4611686018427387904) : ∃ r, Ev (fun k => laws_markInodeS.f k l x) (x + rowsW l, r) ∧ r.length = l.length ∧ rowsW r = rowsW l ∧ HeldT x r := markTabS1 l x (by omega) h0 h1
theorem heldT_at (l : List S40) : ∀ (a : Int) (i : Nat) (h : i < l.length), HeldT a l → (l[i].f0 = a + rowsW (l.take i) ∧ l[i].f1 = a + rowsW (l.take i) + 1 ∧ l[i].f2 = a + rowsW (l.take i) + 2 ∧ HeldX (a + rowsW (l.take i) + 3) l[i].f3 l[i].f4 l[i].f5) := by
  induction l with
  | nil => intro a i h; simp at h
  | cons x l ih =>
    intro a i h hh
    cases i with
    | zero => simpa [rowsW] using hh.1
    | succ i =>
      have := ih (a + rowW x) i (by simpa using h) hh.2
      rw [show a + (rowW x : Int) + rowsW (l.take i) = a + rowsW ((x :: l).take (i + 1)) from by simp [rowsW]; omega] at this
      exact this
theorem rowsW_take (l : List S40) (i : Nat) (h : i < l.length) : rowsW (l.take (i + 1)) = rowsW (l.take i) + rowW l[i] := by
  unfold rowsW; rw [List.take_succ_eq_append_getElem h, List.map_append, List.sum_append]; simp
theorem rowsW_le (l : List S40) (i : Nat) : rowsW (l.take i) ≤ rowsW l := by
  have h : rowsW l = rowsW (l.take i) + rowsW (l.drop i) := by unfold rowsW; rw [← List.sum_append, ← List.map_append, List.take_append_drop]
  omega
end Go.Proofs.Ytmndnegpclaidaa.Q
namespace Go.Proofs.Ytmndnegpclaidaa.Q
open Go.RowKit Go.Proofs.Ytmndnegpclaidaa.P Go.Proofs.YtmndnegpclaidaaW.PrintWords Go.Proofs.YtmndnegpclaidaaW.PrintLast Go.Proofs.YtmndnegpclaidaaW.PrintMore

theorem heldTabS1 (l : List S40) (nx x : Int) (hl : l.length ≤ 1048577) (h0 : 1 ≤ x) (h1 : x + rowsW l ≤ 4611686018427387904) (hh : HeldT x l) : Ev (fun k => laws_heldTab.f k l nx x) (x + rowsW l) := by
  have key := down (n := l.length) (P := fun i => Ev (fun k => laws_heldInodeS.l0 k l (x + rowsW (l.take i)) (i : Nat)) (x + rowsW l)) (by
      apply evPre
      simp only [laws_heldInodeS.l0, List.take_length]
      exact evN (by omega) (Ev.now _)) (fun i hi h => by
      obtain ⟨g0, g1, g2, hd, he, ht⟩ := heldT_at l x i hi hh
      have hrd : rd_T40 l (i : Int) = l[i] := getD_at l _ i hi
      have hw := rowsW_take l i hi
      have hle := rowsW_le l (i + 1)
      have hy : rowW l[i] = 3 + (l[i].f3.length + 2 * l[i].f4.length + 2 * l[i].f5.length) := rfl
      generalize hA : x + (rowsW (l.take i) : Int) = A at g0 g1 g2 hd he ht
      have b1 := heldByteS_ev l[i].f3.length (A + 3) (by omega) (by omega)
      rw [← hd] at b1
      have b2 := heldEntS l[i].f4 (A + 3 + l[i].f3.length) (by omega) (by omega) he
      have b3 := heldAttrS l[i].f5 (A + 3 + l[i].f3.length + 2 * l[i].f4.length) (by omega) (by omega) ht
      apply evPre
      simp only [laws_heldInodeS.l0, hrd]
      rw [w64 (n := A + 1) (by omega) (by omega), w64 (n := A + 1 + 1) (by omega) (by omega), w64 (n := A + 1 + 1 + 1) (by omega) (by omega), nxt i l.length hi (by omega), show A + 1 + 1 + 1 = A + 3 from by omega]
      refine evP (by omega) (evP (by omega) (evP g0 (evP g1 (evP (by omega) (Ev.bind b1 (evN (by omega) (Ev.bind b2 (evN (by omega) (Ev.bind b3 (evN (by omega) ?_))))))))))
      rw [show A + 3 + (l[i].f3.length : Int) + 2 * l[i].f4.length + 2 * l[i].f5.length = x + rowsW (l.take (i + 1)) from by omega]
      exact h)
  unfold laws_heldTab.f laws_heldInodeS.f
  refine Ev.bind (a := x + rowsW l) ?_ (evN (by omega) (Ev.now _))
  simpa [rowsW] using key
theorem heldTabS (l : List S40) (nx x : Int) (hl : l.length ≤ 1048576) (h0 : 1 ≤ x) (h1 : x + rowsW l ≤ 4611686018427387904) (hh : HeldT x l) : Ev (fun k => laws_heldTab.f k l nx x) (x + rowsW l) := heldTabS1 l nx x (by omega) h0 h1 hh
end Go.Proofs.Ytmndnegpclaidaa.Q
namespace Go.Proofs.Ytmndnegpclaidaa.Q
open Go.RowKit Go.Proofs.Ytmndnegpclaidaa.P Go.Proofs.YtmndnegpclaidaaW.PrintWords Go.Proofs.YtmndnegpclaidaaW.PrintLast Go.Proofs.YtmndnegpclaidaaW.PrintMore

/-- A table's inodes are small. -/
structure InoA (x : S40) : Prop where
  d : x.f3.length ≤ 1048576
  e : x.f4.length ≤ 1048576
  t : x.f5.length ≤ 1048576
theorem copy_ino (x : S40) (h : InoA x) : impl_copyInode.f x.f0 x.f1 x.f2 x.f3 x.f4 x.f5 = some (x.f0, x.f1, x.f2, x.f3, x.f4, x.f5) := by
  have hd := h.d; have he := h.e; have ht := h.t
  have a : slices_Clone_byte_byte.f x.f3 = some x.f3 := by unfold slices_Clone_byte_byte.f; simp; omega
  have b : slices_Clone_Ent.f x.f4 = some x.f4 := by unfold slices_Clone_Ent.f; simp; omega
  have c : slices_Clone_Attr.f x.f5 = some x.f5 := by unfold slices_Clone_Attr.f; simp; omega
  unfold impl_copyInode.f
  rw [a, Option.bind_some, b, Option.bind_some, c, Option.bind_some]
end Go.Proofs.Ytmndnegpclaidaa.Q
namespace Go.Proofs.Ytmndnegpclaidaa.Q
open Go.RowKit Go.Proofs.Ytmndnegpclaidaa.P Go.Proofs.YtmndnegpclaidaaW.PrintWords Go.Proofs.YtmndnegpclaidaaW.PrintLast Go.Proofs.YtmndnegpclaidaaW.PrintMore

theorem l3_copy (x : S40) (h : InoA x) : spec_l3Copy.f x.f0 x.f1 x.f2 x.f3 x.f4 x.f5 = some (x.f0, x.f1, x.f2, x.f3, x.f4, x.f5) := by
  have hd := h.d; have he := h.e; have ht := h.t
  unfold spec_l3Copy.f
  simp only [Option.bind_some, List.length_nil, List.nil_append]
  rw [if_pos (by omega), if_pos (by omega), if_pos (by omega)]
end Go.Proofs.Ytmndnegpclaidaa.Q
namespace Go.Proofs.Ytmndnegpclaidaa.Q
open Go.RowKit Go.Proofs.Ytmndnegpclaidaa.P Go.Proofs.YtmndnegpclaidaaW.PrintWords Go.Proofs.YtmndnegpclaidaaW.PrintLast Go.Proofs.YtmndnegpclaidaaW.PrintMore

theorem inoA_of (l : List S29) (h : ∀ x ∈ l, InoS x) : ∀ x ∈ l.map iInode, InoA x := fun x hx => by
  obtain ⟨h3, h4, h5⟩ := small_map l h x hx
  exact ⟨h3, h4, h5⟩
theorem rowsW_of (l : List S29) : rowsW (l.map iInode) ≤ 3 * tabSz l := by
  unfold rowsW tabSz
  induction l with
  | nil => simp
  | cons x l ih =>
    simp only [List.map_cons, List.sum_cons, List.length_cons]
    have : rowW (iInode x) ≤ 3 + 3 * inoSz x := by
      unfold rowW inW inoSz inodeSz iInode
      simp only [List.length_map]
      omega
    omega
theorem rowsW_filter (p : S40 → Bool) (l : List S40) : rowsW (l.filter p) ≤ rowsW l := by
  unfold rowsW
  induction l with
  | nil => simp
  | cons x l ih =>
    rw [List.filter_cons]
    split
    · simp only [List.map_cons, List.sum_cons]; omega
    · simp only [List.map_cons, List.sum_cons]; omega
theorem inoA_bound {l : List S40} (h : ∀ x ∈ l, InoA x) : ∀ x ∈ l, x.f3.length ≤ 9223372036854775807 ∧ x.f4.length ≤ 9223372036854775807 ∧ x.f5.length ≤ 9223372036854775807 := fun x hx => by
  have a := (h x hx).d; have b := (h x hx).e; have c := (h x hx).t
  omega
end Go.Proofs.Ytmndnegpclaidaa.Q
namespace Go.Proofs.Ytmndnegpclaidaa.Q
open Go.RowKit Go.Proofs.Ytmndnegpclaidaa.P Go.Proofs.YtmndnegpclaidaaW.PrintWords Go.Proofs.YtmndnegpclaidaaW.PrintLast Go.Proofs.YtmndnegpclaidaaW.PrintMore

theorem place_range (ino : Int) (l : List S40) : ∀ i : Nat, placeR ino l i = -1 ∨ ((i : Int) ≤ placeR ino l i ∧ placeR ino l i < i + l.length) := by
  induction l with
  | nil => intro i; exact .inl rfl
  | cons x l ih =>
    intro i
    rw [placeR]
    split
    · right; simp only [List.length_cons]; omega
    · rcases ih (i + 1) with h | h
      · exact .inl h
      · right; simp only [List.length_cons]; omega
theorem spec_at (l : List S40) (nx ino : Int) (hl : l.length ≤ 1048576) : Ev (fun k => spec_l4At.f k l nx ino) (placeR ino l 0) := by
  have key := down (n := l.length) (P := fun i => Ev (fun k => spec_l4At.l0 k ino (i : Nat) l nx) (placeR ino (l.drop i) i)) (by
      apply evPre
      simp only [spec_l4At.l0]
      refine evN (by omega) (evC (Ev.now _) ?_)
      rw [List.drop_length]; rfl) (fun i hi h => by
      have hrd : rd_T40 l (i : Int) = l[i] := getD_at l _ i hi
      apply evPre
      simp only [spec_l4At.l0, hrd]
      rw [nxt i l.length hi (by omega), List.drop_eq_getElem_cons hi, placeR]
      refine evP (by omega) (evP (by omega) ?_)
      by_cases c : l[i].f0 = ino
      · exact evP c (evC (Ev.now _) (by rw [if_pos c]))
      · exact evN c (evC h (by rw [if_neg c])))
  simpa [spec_l4At.f] using key
end Go.Proofs.Ytmndnegpclaidaa.Q
namespace Go.Proofs.Ytmndnegpclaidaa.Q
open Go.RowKit Go.Proofs.Ytmndnegpclaidaa.P Go.Proofs.YtmndnegpclaidaaW.PrintWords Go.Proofs.YtmndnegpclaidaaW.PrintLast Go.Proofs.YtmndnegpclaidaaW.PrintMore

theorem impl_copy_tab (l : List S40) (nx : Int) (hl : l.length ≤ 1048576) (hs : ∀ x ∈ l, InoA x) : Ev (fun k => impl_copyTab.f k l nx) (l, nx) := by
  have key := down (n := l.length) (P := fun i => Ev (fun k => impl_copyTab.l0 k l (l.length : Int) (i : Nat) (l.take i) nx) (l, nx)) (by
      apply evPre
      simp only [impl_copyTab.l0, List.take_length]
      exact evN (by omega) (Ev.now _)) (fun i hi h => by
      have hrd : rd_T40 l (i : Int) = l[i] := getD_at l _ i hi
      apply evPre
      simp only [impl_copyTab.l0, hrd, copy_ino l[i] (hs _ (List.getElem_mem hi)), Option.bind_some]
      rw [nxt i l.length hi (by omega)]
      refine evP (by omega) (evP (by omega) (evP (by omega) (evP (by rw [List.length_take]; omega) ?_)))
      rw [List.take_succ_eq_append_getElem hi] at h
      exact h)
  simpa [impl_copyTab.f] using key
end Go.Proofs.Ytmndnegpclaidaa.Q
namespace Go.Proofs.Ytmndnegpclaidaa.Q
open Go.RowKit Go.Proofs.Ytmndnegpclaidaa.P Go.Proofs.YtmndnegpclaidaaW.PrintWords Go.Proofs.YtmndnegpclaidaaW.PrintLast Go.Proofs.YtmndnegpclaidaaW.PrintMore

theorem spec_copy_tab (l : List S40) (nx : Int) (hl : l.length ≤ 1048576) (hs : ∀ x ∈ l, InoA x) : Ev (fun k => spec_l4Copy.f k l nx) (l, nx) := by
  have key := down (n := l.length) (P := fun i => Ev (fun k => spec_l4Copy.l0 k (i : Nat) l nx (l.take i) nx) (l, nx)) (by
      apply evPre
      simp only [spec_l4Copy.l0, List.take_length]
      exact evN (by omega) (Ev.now _)) (fun i hi h => by
      have hrd : rd_T40 l (i : Int) = l[i] := getD_at l _ i hi
      apply evPre
      simp only [spec_l4Copy.l0, hrd, l3_copy l[i] (hs _ (List.getElem_mem hi)), Option.bind_some]
      rw [nxt i l.length hi (by omega)]
      refine evP (by omega) (evP (by omega) (evP (by rw [List.length_take]; omega) ?_))
      rw [List.take_succ_eq_append_getElem hi] at h
      exact h)
  simpa [spec_l4Copy.f] using key
def leadR (ino : Int) : List S40 → Nat
  | [] => 0
  | y :: l => if y.f0 < ino then leadR ino l + 1 else 0
theorem placeR_neg (ino : Int) (l : List S40) : ∀ j : Nat, placeR ino l j < 0 → ∀ y ∈ l, y.f0 ≠ ino := by
  induction l with
  | nil => intro j _ y hy; cases hy
  | cons x l ih =>
    intro j h y hy
    rw [placeR] at h
    split at h
    · omega
    · rcases List.mem_cons.1 hy with rfl | hy
      · assumption
      · exact ih _ h y hy
theorem gtR_lead (ino : Int) (l : List S40) : (∀ y ∈ l, y.f0 ≠ ino) → ∀ j : Nat, (gtR ino l j = -1 ∧ leadR ino l = l.length) ∨ (gtR ino l j = ((j + leadR ino l : Nat) : Int) ∧ leadR ino l < l.length) := by
  induction l with
  | nil => intro _ j; exact .inl ⟨rfl, rfl⟩
  | cons x l ih =>
    intro h j
    have hx := h x (List.mem_cons_self ..)
    rw [gtR, leadR]
    by_cases c : ino < x.f0
    · rw [if_pos c, if_neg (by omega)]
      exact .inr ⟨by simp, by simp⟩
    · rw [if_neg c, if_pos (by omega)]
      rcases ih (fun y hy => h y (List.mem_cons_of_mem _ hy)) (j + 1) with ⟨h1, h2⟩ | ⟨h1, h2⟩
      · exact .inl ⟨h1, by rw [h2]; rfl⟩
      · exact .inr ⟨by rw [h1]; congr 1; omega, by simp only [List.length_cons]; omega⟩
theorem gtP_lead (ino : Int) (l : List S40) (h : placeR ino l 0 < 0) : gtP ino l = leadR ino l := by
  unfold gtP
  rcases gtR_lead ino l (placeR_neg ino l 0 h) 0 with ⟨h1, h2⟩ | ⟨h1, h2⟩
  · rw [h1, if_pos (by omega), h2]
  · rw [h1, if_neg (by omega)]; omega
theorem leadR_le (ino : Int) (l : List S40) : leadR ino l ≤ l.length := by
  induction l with
  | nil => exact Nat.le_refl _
  | cons x l ih => rw [leadR, List.length_cons]; split <;> omega
theorem setP_length (x : S40) (l : List S40) : (setP x l).length ≤ l.length + 1 := by
  unfold setP
  split
  · rw [List.length_set]; omega
  · simp only [List.length_append, List.length_take, List.length_drop, List.length_singleton]; omega
theorem mem_setP (x y : S40) (l : List S40) (h : y ∈ setP x l) : y = x ∨ y ∈ l := by
  unfold setP at h
  split at h
  · rcases List.mem_or_eq_of_mem_set h with h | h
    · exact .inr h
    · exact .inl h
  · rcases List.mem_append.1 h with h | h
    · rcases List.mem_append.1 h with h | h
      · exact .inr (List.mem_of_mem_take h)
      · exact .inl (by simpa using h)
    · exact .inr (List.mem_of_mem_drop h)
theorem rowsW_app (a b : List S40) : rowsW (a ++ b) = rowsW a + rowsW b := by unfold rowsW; rw [List.map_append, List.sum_append]
theorem rowsW_setP (x : S40) (l : List S40) : rowsW (setP x l) ≤ rowsW l + rowW x := by
  unfold setP
  split
  · generalize (placeR x.f0 l 0).toNat = i
    rw [List.set_eq_take_append_cons_drop]
    split
    · have h : rowsW l = rowsW (l.take i) + rowsW (l.drop i) := by rw [← rowsW_app, List.take_append_drop]
      have h2 : rowsW (l.drop (i + 1)) ≤ rowsW (l.drop i) := by
        rcases Nat.lt_or_ge i l.length with hi | hi
        · rw [List.drop_eq_getElem_cons hi]; unfold rowsW; rw [List.map_cons, List.sum_cons]; omega
        · rw [List.drop_of_length_le hi, List.drop_of_length_le (by omega)]; exact Nat.le_refl _
      have h3 : rowsW (x :: l.drop (i + 1)) = rowW x + rowsW (l.drop (i + 1)) := by unfold rowsW; simp
      rw [rowsW_app, h3]
      omega
    · omega
  · generalize gtP x.f0 l = i
    have h : rowsW l = rowsW (l.take i) + rowsW (l.drop i) := by rw [← rowsW_app, List.take_append_drop]
    rw [rowsW_app, rowsW_app]
    have : rowsW [x] = rowW x := by unfold rowsW; simp
    omega
theorem impl_set (l : List S40) (nx : Int) (x : S40) (hl : l.length ≤ 1048576) (hs : ∀ x ∈ l, InoA x) (hx : InoA x) : Ev (fun k => impl_SetInode.f k l nx x.f0 x.f1 x.f2 x.f3 x.f4 x.f5) (setP x l, nx) := by
  unfold impl_SetInode.f
  refine Ev.bind (impl_copy_tab l nx hl hs) ?_
  simp only [copy_ino x hx, Option.bind_some]
  exact evP (by omega) (Ev.now _)
theorem spec_set (l : List S40) (nx : Int) (x : S40) (hl : l.length ≤ 1048576) (hs : ∀ x ∈ l, InoA x) (hx : InoA x) : Ev (fun k => spec_SetInode.f k l nx x.f0 x.f1 x.f2 x.f3 x.f4 x.f5) (setP x l, nx) := by
  have hr := place_range x.f0 l 0
  unfold spec_SetInode.f
  refine Ev.bind (spec_copy_tab l nx hl hs) (Ev.bind (spec_at l nx x.f0 hl) ?_)
  by_cases c : 0 ≤ placeR x.f0 l 0
  · simp only [l3_copy x hx, Option.bind_some]
    refine evP c (evP c (evP (by omega) (evC (Ev.now _) ?_)))
    unfold setP
    rw [if_pos c]
  · refine evN c ?_
    have hp : setP x l = l.take (leadR x.f0 l) ++ [x] ++ l.drop (leadR x.f0 l) := by
      unfold setP; rw [if_neg c, gtP_lead _ _ (by omega)]
    rw [hp]
    have hle := leadR_le x.f0 l
    have key := down (n := l.length) (P := fun i => i + leadR x.f0 (l.drop i) = leadR x.f0 l → Ev (fun k => spec_SetInode.l0 k (i : Nat) l nx x.f0 x.f1 x.f2 x.f3 x.f4 x.f5 l nx) (l.take (leadR x.f0 l) ++ [x] ++ l.drop (leadR x.f0 l), nx)) (fun hi => by
        rw [List.drop_length] at hi
        have hi' : l.length = leadR x.f0 l := by rw [← hi]; rfl
        apply evPre
        simp only [spec_SetInode.l0, l3_copy x hx, Option.bind_some, Int.toNat_natCast, List.nil_append, List.length_nil]
        refine evN (by omega) (evP (by omega) (evP (by omega) (evP (by rw [List.length_take]; omega) (evP (by rw [List.length_take]; omega) (evP (by simp only [List.length_append, List.length_take, List.length_drop, List.length_singleton]; omega) (evC (Ev.now _) ?_))))))
        rw [← hi']) (fun i hi h hd => by
        have hrd : rd_T40 l (i : Int) = l[i] := getD_at l _ i hi
        rw [List.drop_eq_getElem_cons hi, leadR] at hd
        apply evPre
        simp only [spec_SetInode.l0, hrd, l3_copy x hx, Option.bind_some, Int.toNat_natCast, List.nil_append, List.length_nil]
        rw [nxt i l.length hi (by omega)]
        refine evP (by omega) (evP (by omega) ?_)
        by_cases cc : l[i].f0 < x.f0
        · rw [if_pos cc] at hd
          exact evP cc (h (by omega))
        · rw [if_neg cc] at hd
          refine evN cc (evP (by omega) (evP (by rw [List.length_take]; omega) (evP (by rw [List.length_take]; omega) (evP (by simp only [List.length_append, List.length_take, List.length_drop, List.length_singleton]; omega) (evC (Ev.now _) ?_)))))
          rw [show i = leadR x.f0 l by omega])
    exact key (by simp)
end Go.Proofs.Ytmndnegpclaidaa.Q
