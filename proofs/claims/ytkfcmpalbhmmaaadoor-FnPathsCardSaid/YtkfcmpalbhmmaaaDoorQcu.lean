/- The reference's cursor over the bytes of a draw: its functions answer, and in what range. No condition. -/
import Derived.Test.YtkfcmpalbhmmaaaDoorQbt
import Derived.Test.YtkfcmpalbhmmaaaDoorPx1
namespace Go.Proofs.YtkfcmpalbhmmaaaDoor.Q
open Go.RowKit Go.Proofs.YtkfcmpalbhmmaaaDoor.P Go.Proofs.YtkfcmpalbhmmaaaDoorW.PrintWords Go.Proofs.YtkfcmpalbhmmaaaDoorW.PrintLast Go.Proofs.YtkfcmpalbhmmaaaDoorW.PrintMore

theorem and_le (x : Int) : 0 ≤ Go.bits .and .i64 x 255 ∧ Go.bits .and .i64 x 255 ≤ 255 := by
  simp only [Go.bits, BitVec.toNat_and]
  have h : (BitVec.ofInt 64 x).toNat &&& (BitVec.ofInt 64 255).toNat ≤ 255 := Nat.and_le_right
  have : (BitVec.ofInt IntKind.i64.bits x).toNat &&& (BitVec.ofInt IntKind.i64.bits 255).toNat ≤ 255 := h
  generalize (BitVec.ofInt IntKind.i64.bits x).toNat &&& (BitVec.ofInt IntKind.i64.bits 255).toNat = m at *
  rw [wraps_i64 _ (by omega) (by omega)]
  omega
/-- A cursor: bytes, a place within them. -/
def Cur (b : List Int) (i : Int) : Prop := Byt b ∧ b.length ≤ 4611686018427387904 ∧ 0 ≤ i ∧ i ≤ b.length
theorem l1New_loop (l : List Int) (hl : l.length ≤ 4611686018427387904) (n : Nat) : ∀ (i : Nat) (h : Int), i ≤ l.length → l.length - i = n → ∃ h', Ev (fun k => spec_l1New.l0 k l h i) (l, 0, h') := by
  induction n with
  | zero =>
    intro i h hi hn
    refine ⟨h, ?_⟩
    apply evPre
    simp only [spec_l1New.l0]
    exact evN (by omega) (Ev.now _)
  | succ n ih =>
    intro i h hi hn
    by_cases hm : (i : Int) < 4000
    · obtain ⟨h', ih⟩ := ih (i + 1) (Go.bits .and .i64 (wrap64 ((wrap64 ((wrap64 (h * 137)) + (wrap64 (rd l i)))) + 11)) 1073741823) (by omega) (by omega)
      rw [show ((i + 1 : Nat) : Int) = wrap64 ((i : Int) + 1) from by rw [w64 (by omega) (by omega)]; simp] at ih
      refine ⟨h', ?_⟩
      apply evPre
      simp only [spec_l1New.l0]
      exact evP (by omega) (evP hm (evP (by omega) ih))
    · refine ⟨h, ?_⟩
      apply evPre
      simp only [spec_l1New.l0]
      exact evP (by omega) (evN hm (Ev.now _))
theorem l1New_ev (l : List Int) (hb : Byt l) (hl : l.length ≤ 4611686018427387904) : ∃ h, Ev (fun k => spec_l1New.f k l) (l, 0, h) ∧ Cur l 0 := by
  obtain ⟨h, e⟩ := l1New_loop l hl l.length 0 (wrap64 (351351 + (l.length : Int))) (by omega) (by omega)
  exact ⟨h, by simpa [spec_l1New.f] using e, hb, hl, by omega, by omega⟩
theorem l1Byte_ev {b : List Int} {i : Int} (hc : Cur b i) (h : Int) : ∃ x i' h', spec_l1Byte.f b i h = some (x, i', h') ∧ 0 ≤ x ∧ x ≤ 255 ∧ Cur b i' := by
  obtain ⟨hb, hl, h0, h1⟩ := hc
  unfold spec_l1Byte.f
  by_cases h2 : i < b.length
  · rw [if_pos h2, if_pos h0, w64 (n := i + 1) (by omega) (by omega)]
    exact ⟨_, _, _, rfl, (and_le _).1, (and_le _).2, hb, hl, by omega, by omega⟩
  · rw [if_neg h2]
    exact ⟨_, _, _, rfl, (and_le _).1, (and_le _).2, hb, hl, by omega, by omega⟩
theorem l1Below_ev {b : List Int} {i : Int} (hc : Cur b i) (h n : Int) : ∃ x i' h', spec_l1Below.f b i h n = some (x, i', h') ∧ 0 ≤ x ∧ (0 < n → x < n) ∧ (n ≤ 0 → x = 0) ∧ Cur b i' := by
  unfold spec_l1Below.f
  by_cases h0 : n ≤ 0
  · rw [if_pos h0]
    exact ⟨0, i, h, rfl, by omega, by omega, fun _ => rfl, hc⟩
  rw [if_neg h0]
  by_cases h1 : n ≤ 256
  · rw [if_pos h1]
    obtain ⟨x, i1, h1, e, hx0, hx1, hc1⟩ := l1Byte_ev hc h
    rw [e, Option.bind_some, if_neg (by omega), Int.tmod_eq_emod_of_nonneg (by omega)]
    exact ⟨_, _, _, rfl, Int.emod_nonneg _ (by omega), fun _ => Int.emod_lt_of_pos _ (by omega), fun _ => by omega, hc1⟩
  · rw [if_neg h1]
    obtain ⟨x, i1, h1, e, hx0, hx1, hc1⟩ := l1Byte_ev hc h
    obtain ⟨y, i2, h2, e2, hy0, hy1, hc2⟩ := l1Byte_ev hc1 h1
    obtain ⟨z, i3, h3, e3, hz0, hz1, hc3⟩ := l1Byte_ev hc2 h2
    rw [e, Option.bind_some, e2, Option.bind_some, e3, Option.bind_some, if_neg (by omega)]
    rw [w64 (n := x * 65536) (by omega) (by omega), w64 (n := y * 256) (by omega) (by omega), w64 (n := x * 65536 + y * 256) (by omega) (by omega), w64 (by omega) (by omega), Int.tmod_eq_emod_of_nonneg (by omega)]
    exact ⟨_, _, _, rfl, Int.emod_nonneg _ (by omega), fun _ => Int.emod_lt_of_pos _ (by omega), fun _ => by omega, hc3⟩
end Go.Proofs.YtkfcmpalbhmmaaaDoor.Q
