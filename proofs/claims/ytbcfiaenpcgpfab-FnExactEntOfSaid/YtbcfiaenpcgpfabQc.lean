/- Lists of bytes copied and compared; GetNum: what the program's and the reference's functions answer, in plain words. No condition. -/
import Derived.Test.YtbcfiaenpcgpfabQa
import Derived.Test.YtbcfiaenpcgpfabPx1
import Derived.Test.YtbcfiaenpcgpfabPx2
namespace Go.Proofs.Ytbcfiaenpcgpfab.Q
open Go.RowKit Go.Proofs.Ytbcfiaenpcgpfab.P Go.Proofs.YtbcfiaenpcgpfabW.PrintWords Go.Proofs.YtbcfiaenpcgpfabW.PrintLast Go.Proofs.YtbcfiaenpcgpfabW.PrintMore

theorem set_copy (l : List Int) (n i : Nat) (hn : n = l.length) (hi : i < n) : (l.take i ++ List.replicate (n - i) 0).set i (rd l i) = l.take (i + 1) ++ List.replicate (n - (i + 1)) 0 := by
  subst hn
  rw [List.set_append, if_neg (by rw [List.length_take]; omega), show i - (l.take i).length = 0 from by rw [List.length_take]; omega]
  obtain ⟨m, hm⟩ : ∃ m, l.length - i = m + 1 := ⟨l.length - i - 1, by omega⟩
  rw [hm, List.replicate_succ, List.set_cons_zero, show l.length - (i + 1) = m from by omega, List.take_succ_eq_append_getElem hi, List.append_assoc]
  have : rd l i = l[i] := by simp [Go.Proofs.YtbcfiaenpcgpfabW.PrintWords.rd, List.getElem?_eq_getElem hi]
  rw [this]
  rfl
theorem toByteS_loop (l : List Int) (hl : l.length ≤ 9223372036854775807) (n : Nat) : ∀ (i : Nat), i ≤ l.length → l.length - i = n →
    Ev (fun k => laws_toByteS.l0 k l (l.take i ++ List.replicate (l.length - i) 0) i) l := by
  induction n with
  | zero =>
    intro i hi hn
    apply evPre
    simp only [laws_toByteS.l0]
    refine evN (by omega) ?_
    rw [List.take_of_length_le (by omega), hn]
    simpa using Ev.now l
  | succ n ih =>
    intro i hi hn
    have ih := ih (i + 1) (by omega) (by omega)
    rw [show ((i + 1 : Nat) : Int) = wrap64 ((i : Int) + 1) from by rw [w64 (by omega) (by omega)]; simp] at ih
    apply evPre
    simp only [laws_toByteS.l0]
    refine evP (by omega) (evP (by omega) (evP (by simp [List.length_append, List.length_take]; omega) ?_))
    rw [Int.toNat_natCast, set_copy l _ i rfl (by omega)]
    exact ih
theorem toByteS_ev (l : List Int) (hl : l.length ≤ 281474976710656) : Ev (fun k => laws_toByteS.f k l) l := by
  have h := toByteS_loop l (by omega) l.length 0 (by omega) (by omega)
  simpa [laws_toByteS.f, hl] using h

theorem eq_drop (a b : List Int) (i : Nat) (ha : i < a.length) (hb : i < b.length) : decide (a.drop i = b.drop i) = (decide (rd a i = rd b i) && decide (a.drop (i + 1) = b.drop (i + 1))) := by
  rw [drop_cons a i ha, drop_cons b i hb]
  by_cases h : rd a i = rd b i <;> simp [h]
theorem eqByteS_loop (a b : List Int) (hab : a.length = b.length) (hl : a.length ≤ 9223372036854775807) (n : Nat) : ∀ (i : Nat), i ≤ a.length → a.length - i = n →
    Ev (fun k => laws_eqByteS.l0 k a b i) (decide (a.drop i = b.drop i)) := by
  induction n with
  | zero =>
    intro i hi hn
    apply evPre
    simp only [laws_eqByteS.l0]
    refine evN (by omega) ?_
    rw [List.drop_eq_nil_of_le (by omega), List.drop_eq_nil_of_le (by omega)]
    simpa using Ev.now true
  | succ n ih =>
    intro i hi hn
    have ih := ih (i + 1) (by omega) (by omega)
    rw [show ((i + 1 : Nat) : Int) = wrap64 ((i : Int) + 1) from by rw [w64 (by omega) (by omega)]; simp] at ih
    apply evPre
    simp only [laws_eqByteS.l0]
    rw [eq_drop a b i (by omega) (by omega)]
    refine evP (by omega) (evP (by omega) (evP (by omega) ?_))
    by_cases h : rd a i = rd b i
    · refine evP h (evC ih ?_); simp [h]
    · refine evN h (evC (Ev.now _) ?_); simp [h]
theorem eqByteS_ev (a b : List Int) (hl : a.length ≤ 9223372036854775807) : Ev (fun k => laws_eqByteS.f k a b) (decide (a = b)) := by
  unfold laws_eqByteS.f
  by_cases h : a.length = b.length
  · have h1 := eqByteS_loop a b h hl a.length 0 (by omega) (by omega)
    refine evP (by omega) ?_
    simpa using h1
  · refine evN (by omega) (evC (Ev.now _) ?_)
    have : a ≠ b := fun e => h (by rw [e])
    simp [this]

/-- The number whose groups begin a list (m of them may come; what is there is n, the next group's unit is u, i groups were read), and how many there were. -/
def numR : Nat → List Int → Int → Int → Int → Option (Int × Int)
  | 0, _, _, _, _ => none
  | _ + 1, [], _, _, _ => none
  | m + 1, x :: t, n, u, i => if 128 ≤ x then numR m t (n + x % 128 * u) (u * 128) (i + 1) else if n + x * u > 1000000 ∨ x = 0 ∧ 0 < i then none else some (n + x * u, i + 1)
def numTold (p : Int) : Option (Int × Int) → Int × Int × Bool
  | none => (0, 0, false)
  | some (n, m) => (n, p + m, true)
def getNum (l : List Int) (p : Int) : Int × Int × Bool := if p < 0 then (0, 0, false) else numTold p (numR 3 (l.drop p.toNat) 0 1 0)

theorem impl_num_loop (l : List Int) (hb : Byt l) (hl : l.length ≤ 4611686018427387904) (p : Nat) (hp : (p : Int) ≤ 9223372036854775807) (m : Nat) : ∀ (i : Nat) (n u : Int), i + m = 3 → (u = 1 ∧ i = 0 ∨ u = 128 ∧ i = 1 ∨ u = 16384 ∧ i = 2 ∨ u = 2097152 ∧ i = 3) → 0 ≤ n → n < u →
    Ev (fun k => impl_GetNum.l0 k l p n u i) (numTold p (numR m (l.drop (p + i)) n u i)) := by
  induction m with
  | zero =>
    intro i n u hi hu h0 h1
    apply evPre
    simp only [impl_GetNum.l0]
    refine evN (by omega) ?_
    apply evPre
    simp only [impl_GetNum.j1]
    exact evN (by simp) (Ev.now _)
  | succ m ih =>
    intro i n u hi hu h0 h1
    apply evPre
    simp only [impl_GetNum.l0]
    refine evP (by omega) ?_
    apply evPre
    simp only [impl_GetNum.j1]
    by_cases hlt : p + i < l.length
    · rw [drop_cons l (p + i) hlt]
      have hr := hb.rd ((p + i : Nat) : Int)
      rw [w64 (by omega) (by omega)]
      refine evP (by simp; omega) ?_
      rw [w64 (n := (p : Int) + i) (by omega) (by omega)]
      refine evP (by omega) (evP (by omega) ?_)
      rw [show ((p : Int) + i) = ((p + i : Nat) : Int) from by omega]
      have ih' := ih (i + 1) (n + rd l ((p + i : Nat) : Int) % 128 * u) (u * 128) (by omega)
      generalize hx : rd l ((p + i : Nat) : Int) = x at *
      rw [w64 (n := x) (by omega) (by omega), Int.tmod_eq_emod_of_nonneg (by omega)]
      have hm : 0 ≤ x % 128 ∧ x % 128 ≤ 127 := by omega
      have hxu : 0 ≤ x % 128 * u ∧ x % 128 * u ≤ 127 * u := by
        rcases hu with ⟨rfl, _⟩ | ⟨rfl, _⟩ | ⟨rfl, _⟩ | ⟨rfl, _⟩ <;> omega
      rw [w64 (n := x % 128 * u) (by omega) (by omega), w64 (n := n + x % 128 * u) (by omega) (by omega), w64 (n := u * 128) (by omega) (by omega), w64 (n := (i : Int) + 1) (by omega) (by omega), w64 (n := ((p + i : Nat) : Int) + 1) (by omega) (by omega)]
      simp only [numR]
      by_cases h8 : 128 ≤ x
      · refine evP h8 ?_
        rw [if_pos h8]
        have := ih' (by omega) (by omega) (by rcases hu with ⟨rfl, _⟩ | ⟨rfl, _⟩ | ⟨rfl, _⟩ | ⟨rfl, _⟩ <;> omega)
        simpa [Nat.add_assoc] using this
      · refine evN (by omega) ?_
        rw [if_neg h8, show x % 128 = x from by omega]
        by_cases h9 : n + x * u > 1000000
        · refine evP h9 ?_
          rw [if_pos (Or.inl h9)]
          exact Ev.now _
        · refine evN h9 ?_
          by_cases hz : x = 0
          · refine evP hz ?_
            by_cases h10 : (i : Int) > 0
            · refine evP h10 ?_
              rw [if_pos (Or.inr ⟨hz, h10⟩)]
              exact Ev.now _
            · refine evN h10 ?_
              rw [if_neg (by omega)]
              refine evC (Ev.now _) ?_
              simp [numTold]; omega
          · refine evN hz ?_
            rw [if_neg (by omega)]
            refine evC (Ev.now _) ?_
            simp [numTold]; omega
    · rw [List.drop_eq_nil_of_le (by omega), w64 (by omega) (by omega)]
      refine evN (by simp; omega) ?_
      exact Ev.now _
theorem impl_getNum (l : List Int) (hb : Byt l) (hl : l.length ≤ 4611686018427387904) (p : Int) (hp : p ≤ 9223372036854775807) : Ev (fun k => impl_GetNum.f k l p) (getNum l p) := by
  unfold impl_GetNum.f getNum
  by_cases h : p < 0
  · rw [if_pos h]
    exact evP h (Ev.now _)
  · rw [if_neg h]
    refine evN h ?_
    obtain ⟨q, rfl⟩ := Int.eq_ofNat_of_zero_le (by omega : 0 ≤ p)
    simpa using impl_num_loop l hb hl q hp 3 0 0 1 rfl (by omega) (by omega) (by omega)

theorem wraps_i64 (n : Int) (h₀ : 0 ≤ n) (h₁ : n < 2 ^ 63) : IntKind.i64.wrap n = n := by rw [IntKind.wrap_i64]; omega
theorem and127 (x : Int) (h0 : 0 ≤ x) (h1 : x < 9223372036854775808) : Go.bits .and .i64 x 127 = x % 128 := bits_mask .i64 63 (by decide) wraps_i64 7 (by decide) x h0 h1
theorem or_join (i : Nat) (hi : i ≤ 62) (x y : Int) (hx₀ : 0 ≤ x) (hx : x % 2 ^ i = 0) (hx₁ : x < 2 ^ 63) (hy₀ : 0 ≤ y) (hy : y < 2 ^ i) : Go.bits .or .i64 y x = y + x := by
  have hy1 : y < 2 ^ 63 := by
    have : (2 : Int) ^ i ≤ 2 ^ 63 := by exact_mod_cast Nat.pow_le_pow_right (by decide : 0 < 2) (by omega : i ≤ 63)
    omega
  have h := bits_join .i64 63 (by decide) wraps_i64 i x y hx₀ hx hx₁ hy₀ hy hy1
  obtain ⟨a, rfl⟩ := Int.eq_ofNat_of_zero_le hx₀
  obtain ⟨b, rfl⟩ := Int.eq_ofNat_of_zero_le hy₀
  have ha : a < 2 ^ 63 := by exact_mod_cast hx₁
  have hb : b < 2 ^ 63 := by exact_mod_cast hy1
  have e1 := (bits_nat .i64 63 (by decide) wraps_i64 b a hb ha).2
  have e2 := (bits_nat .i64 63 (by decide) wraps_i64 a b ha hb).2
  rw [e1, Nat.or_comm, ← e2, h, Int.add_comm]
theorem shl_at (x : Int) (h0 : 0 ≤ x) (h1 : x < 128) : shl .i64 x (IntKind.u64.wrap (wrap64 (7 * 0))) = x ∧ shl .i64 x (IntKind.u64.wrap (wrap64 (7 * 1))) = x * 128 ∧ shl .i64 x (IntKind.u64.wrap (wrap64 (7 * 2))) = x * 16384 := by
  have e0 : (IntKind.u64.wrap (wrap64 (7 * 0))).toNat = 0 := by decide +kernel
  have e1 : (IntKind.u64.wrap (wrap64 (7 * 1))).toNat = 7 := by decide +kernel
  have e2 : (IntKind.u64.wrap (wrap64 (7 * 2))).toNat = 14 := by decide +kernel
  unfold shl
  rw [e0, e1, e2]
  refine ⟨?_, ?_, ?_⟩ <;> simp only [IntKind.bits] <;> rw [wraps_i64 _ (by simp; omega) (by simp; omega)] <;> simp

theorem spec_num_loop (l : List Int) (hb : Byt l) (hl : l.length ≤ 4611686018427387904) (p : Nat) (hp : (p : Int) ≤ 9223372036854775807) (m : Nat) : ∀ (i : Nat) (n u : Int), i + m = 3 → (u = 1 ∧ i = 0 ∨ u = 128 ∧ i = 1 ∨ u = 16384 ∧ i = 2 ∨ u = 2097152 ∧ i = 3) → 0 ≤ n → n < u →
    Ev (fun k => spec_GetNum.l0 k l p n i) (numTold p (numR m (l.drop (p + i)) n u i)) := by
  induction m with
  | zero =>
    intro i n u hi hu h0 h1
    apply evPre
    simp only [spec_GetNum.l0]
    refine evN (by omega) ?_
    apply evPre
    simp only [spec_GetNum.j1]
    exact evN (by simp) (Ev.now _)
  | succ m ih =>
    intro i n u hi hu h0 h1
    apply evPre
    simp only [spec_GetNum.l0]
    refine evP (by omega) (evP (by omega) ?_)
    by_cases hlt : p + i < l.length
    · refine evP (by omega) ?_
      apply evPre
      simp only [spec_GetNum.j1]
      rw [drop_cons l (p + i) hlt]
      have hr := hb.rd ((p + i : Nat) : Int)
      rw [w64 (n := (p : Int) + i) (by omega) (by omega)]
      refine evP (by simp; omega) (evP (by omega) (evP (by omega) (evP (by rcases hu with ⟨_, rfl⟩ | ⟨_, rfl⟩ | ⟨_, rfl⟩ | ⟨_, rfl⟩ <;> decide +kernel) ?_)))
      rw [show ((p : Int) + i) = ((p + i : Nat) : Int) from by omega]
      have ih' := ih (i + 1) (n + rd l ((p + i : Nat) : Int) % 128 * u) (u * 128) (by omega)
      generalize hx : rd l ((p + i : Nat) : Int) = x at *
      rw [w64 (n := x) (by omega) (by omega), and127 x (by omega) (by omega)]
      have hm : 0 ≤ x % 128 ∧ x % 128 ≤ 127 := by omega
      have hxu : 0 ≤ x % 128 * u ∧ x % 128 * u ≤ 127 * u := by
        rcases hu with ⟨rfl, _⟩ | ⟨rfl, _⟩ | ⟨rfl, _⟩ | ⟨rfl, _⟩ <;> omega
      have hs : Go.bits .or .i64 n (shl .i64 (x % 128) (IntKind.u64.wrap (wrap64 (7 * i)))) = n + x % 128 * u := by
        have hsh := shl_at (x % 128) (by omega) (by omega)
        rcases hu with ⟨rfl, rfl⟩ | ⟨rfl, rfl⟩ | ⟨rfl, rfl⟩ | ⟨rfl, rfl⟩
        · rw [show ((0 : Nat) : Int) = 0 from rfl, hsh.1, or_join 0 (by omega) _ _ (by omega) (by simp [Int.emod_one]) (by omega) (by omega) (by simpa using h1), Int.mul_one]
        · rw [show ((1 : Nat) : Int) = 1 from rfl, hsh.2.1, or_join 7 (by omega) _ _ (by omega) (by omega) (by omega) (by omega) (by omega)]
        · rw [show ((2 : Nat) : Int) = 2 from rfl, hsh.2.2, or_join 14 (by omega) _ _ (by omega) (by omega) (by omega) (by omega) (by omega)]
        · omega
      rw [hs, w64 (n := (i : Int) + 1) (by omega) (by omega), w64 (n := ((p + i : Nat) : Int) + 1) (by omega) (by omega)]
      simp only [numR]
      by_cases h8 : 128 ≤ x
      · refine evP (by omega) ?_
        rw [if_pos h8]
        have := ih' (by omega) (by omega) (by rcases hu with ⟨rfl, _⟩ | ⟨rfl, _⟩ | ⟨rfl, _⟩ | ⟨rfl, _⟩ <;> omega)
        simpa [Nat.add_assoc] using this
      · refine evN (by omega) ?_
        rw [if_neg h8, show x % 128 = x from by omega]
        have yes : (n + x * u > 1000000 ∨ x = 0 ∧ 0 < (i : Int)) → Ev (fun _ => some ((0 : Int), (0 : Int), false)) (numTold p (if n + x * u > 1000000 ∨ x = 0 ∧ 0 < (i : Int) then none else some (n + x * u, (i : Int) + 1))) := fun h => by rw [if_pos h]; exact Ev.now _
        have no : ¬ (n + x * u > 1000000 ∨ x = 0 ∧ 0 < (i : Int)) → Ev (fun _ => some (n + x * u, ((p + i : Nat) : Int) + 1, true)) (numTold p (if n + x * u > 1000000 ∨ x = 0 ∧ 0 < (i : Int) then none else some (n + x * u, (i : Int) + 1))) := fun h => by rw [if_neg h]; refine evC (Ev.now _) ?_; simp [numTold]; omega
        repeat (first | exact yes (by omega) | exact no (by omega) | refine evI' (fun _ => ?_) (fun _ => ?_))
    · refine evI' (fun _ => ?_) (fun _ => ?_)
      · apply evPre
        simp only [spec_GetNum.j1]
        rw [List.drop_eq_nil_of_le (by omega), w64 (by omega) (by omega)]
        refine evN (by simp; omega) ?_
        exact Ev.now _
      · apply evPre
        simp only [spec_GetNum.j1]
        rw [List.drop_eq_nil_of_le (by omega)]
        exact evN (by simp) (Ev.now _)
theorem spec_getNum (l : List Int) (hb : Byt l) (hl : l.length ≤ 4611686018427387904) (p : Int) (hp : p ≤ 9223372036854775807) : Ev (fun k => spec_GetNum.f k l p) (getNum l p) := by
  unfold spec_GetNum.f getNum
  by_cases h : p < 0
  · rw [if_pos h]
    apply evPre
    simp only [spec_GetNum.l0]
    refine evP (by omega) (evN (by omega) ?_)
    apply evPre
    simp only [spec_GetNum.j1]
    exact evN (by simp) (Ev.now _)
  · rw [if_neg h]
    obtain ⟨q, rfl⟩ := Int.eq_ofNat_of_zero_le (by omega : 0 ≤ p)
    simpa using spec_num_loop l hb hl q hp 3 0 0 1 rfl (by omega) (by omega) (by omega)
end Go.Proofs.Ytbcfiaenpcgpfab.Q
