/- Bits of whole numbers. No condition. -/
import Derived.Test.YtkfcmpalbhmmaaaDoorQa
namespace Go.Proofs.YtkfcmpalbhmmaaaDoor.Q
open Go.RowKit Go.Proofs.YtkfcmpalbhmmaaaDoorW.PrintWords Go.Proofs.YtkfcmpalbhmmaaaDoorW.PrintLast Go.Proofs.YtkfcmpalbhmmaaaDoorW.PrintMore

theorem wraps_i64 (n : Int) (h₀ : 0 ≤ n) (h₁ : n < 2 ^ 63) : IntKind.i64.wrap n = n := by rw [IntKind.wrap_i64]; omega
theorem and127 (x : Int) (h0 : 0 ≤ x) (h1 : x < 9223372036854775808) : Go.bits .and .i64 x 127 = x % 128 := bits_mask .i64 63 (by decide) wraps_i64 7 (by decide) x h0 h1
theorem or_join (i : Nat) (hi : i ≤ 62) (x y : Int) (hx₀ : 0 ≤ x) (hx : x % 2 ^ i = 0) (hx₁ : x < 2 ^ 63) (hy₀ : 0 ≤ y) (hy : y < 2 ^ i) : Go.bits .or .i64 y x = y + x := by
  have hy1 : y < 2 ^ 63 := by
    have : (2 : Int) ^ i ≤ 2 ^ 63 := by exact_mod_cast Nat.pow_le_pow_right (by decide : 0 < 2) (by omega : i ≤ 63)
    omega
  have h := bits_join .i64 63 (by decide) wraps_i64 i x y hx₀ hx hx₁ hy₀ hy hy1
  obtain ⟨a, rfl⟩ := Int.eq_ofNat_of_zero_le hx₀
  obtain ⟨b, rfl⟩ := Int.eq_ofNat_of_zero_le hy₀
  have ha : a < 2 ^ 63 := by exact_mod_cast hx₁
  have hb : b < 2 ^ 63 := by exact_mod_cast hy1
  have e1 := (bits_nat .i64 63 (by decide) wraps_i64 b a hb ha).2
  have e2 := (bits_nat .i64 63 (by decide) wraps_i64 a b ha hb).2
  rw [e1, Nat.or_comm, ← e2, h, Int.add_comm]
theorem shl_at (x : Int) (h0 : 0 ≤ x) (h1 : x < 128) : shl .i64 x (IntKind.u64.wrap (wrap64 (7 * 0))) = x ∧ shl .i64 x (IntKind.u64.wrap (wrap64 (7 * 1))) = x * 128 ∧ shl .i64 x (IntKind.u64.wrap (wrap64 (7 * 2))) = x * 16384 := by
  have e0 : (IntKind.u64.wrap (wrap64 (7 * 0))).toNat = 0 := by decide +kernel
  have e1 : (IntKind.u64.wrap (wrap64 (7 * 1))).toNat = 7 := by decide +kernel
  have e2 : (IntKind.u64.wrap (wrap64 (7 * 2))).toNat = 14 := by decide +kernel
  unfold shl
  rw [e0, e1, e2]
  refine ⟨?_, ?_, ?_⟩ <;> simp only [IntKind.bits] <;> rw [wraps_i64 _ (by simp; omega) (by simp; omega)] <;> simp

end Go.Proofs.YtkfcmpalbhmmaaaDoor.Q
