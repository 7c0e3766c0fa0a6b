/- FnSums returns true for all bytes: a sum has 32 bits, and turns with any one bit. No condition. -/
import Derived.Test.YtbcfiaenpcgpfaaQe
namespace Go.Proofs.Ytbcfiaenpcgpfaa.Pure
open Go.RowKit Go.Proofs.Ytbcfiaenpcgpfaa.P Go.Proofs.Ytbcfiaenpcgpfaa.Q Go.Proofs.YtbcfiaenpcgpfaaW.PrintWords Go.Proofs.YtbcfiaenpcgpfaaW.PrintLast Go.Proofs.YtbcfiaenpcgpfaaW.PrintMore

theorem shl8 (j : Int) (h0 : 0 ≤ j) (h1 : j < 8) : ∃ b : Nat, shl .u8 1 (IntKind.u64.wrap j) = (b : Int) ∧ 0 < b ∧ b < 256 := by
  have : j = 0 ∨ j = 1 ∨ j = 2 ∨ j = 3 ∨ j = 4 ∨ j = 5 ∨ j = 6 ∨ j = 7 := by omega
  rcases this with rfl | rfl | rfl | rfl | rfl | rfl | rfl | rfl
  · exact ⟨1, by decide +kernel, by omega, by omega⟩
  · exact ⟨2, by decide +kernel, by omega, by omega⟩
  · exact ⟨4, by decide +kernel, by omega, by omega⟩
  · exact ⟨8, by decide +kernel, by omega, by omega⟩
  · exact ⟨16, by decide +kernel, by omega, by omega⟩
  · exact ⟨32, by decide +kernel, by omega, by omega⟩
  · exact ⟨64, by decide +kernel, by omega, by omega⟩
  · exact ⟨128, by decide +kernel, by omega, by omega⟩
theorem u64_small (j : Int) (h0 : 0 ≤ j) (h1 : j < 8) : 0 ≤ IntKind.u64.wrap j := by
  have : j = 0 ∨ j = 1 ∨ j = 2 ∨ j = 3 ∨ j = 4 ∨ j = 5 ∨ j = 6 ∨ j = 7 := by omega
  rcases this with rfl | rfl | rfl | rfl | rfl | rfl | rfl | rfl <;> decide +kernel
theorem FnSums : laws_FnSums.Pure := by
  intro l hl hm hw
  have hb : Byt l := fun x hx => wf8 (hw x hx)
  apply Ev.rounds
  unfold laws_FnSums.f laws_big.f
  simp only [Option.bind_some]
  refine evI' (fun _ => Ev.now _) (fun hbig => ?_)
  have hsm : l.length ≤ 1048576 := by simp at hbig; omega
  obtain ⟨h1, e1, c1⟩ := l1New_ev l hb (by omega)
  obtain ⟨ys, i2, h2, e2, hy, hyl, c2⟩ := l1Some_ev c1 h1
  have eD : Ev (fun k => spec_DrawCrc.f k l) ys := by
    unfold spec_DrawCrc.f
    exact Ev.bind e1 (Ev.bind e2 (Ev.now _))
  refine Ev.bind eD (evP (by omega) ?_)
  have hz : Byt (ys ++ [5]) := by
    intro x hx
    rcases List.mem_append.1 hx with hx | hx
    · exact hy x hx
    · rw [List.mem_singleton.1 hx]; omega
  have hzl : (ys ++ [5]).length = ys.length + 1 := by simp
  generalize ys ++ [5] = z at *
  have hcz := impl_crc z hz (by omega)
  have hlt := crc_lt z hz
  obtain ⟨a, ea, ha0, ha1⟩ := laws_at_ev l hb hsm 2 (by omega) (by omega)
  obtain ⟨c, ec, hc0, hc1⟩ := laws_at_ev l hb hsm 3 (by omega) (by omega)
  simp only [ea, ec, Option.bind_some]
  refine Ev.bind hcz (evN (by omega) ?_)
  rw [Int.tmod_eq_emod_of_nonneg ha0, Int.tmod_eq_emod_of_nonneg hc0]
  have hp0 := Int.emod_nonneg a (b := (z.length : Int)) (by omega)
  have hp1 := Int.emod_lt_of_pos a (b := (z.length : Int)) (by omega)
  generalize a % (z.length : Int) = p at *
  obtain ⟨q, rfl⟩ := Int.eq_ofNat_of_zero_le hp0
  refine evP (by omega) (evP (by omega) (evP (u64_small _ (by omega) (by omega)) (evP (by omega) (evP (by omega) ?_))))
  obtain ⟨b, eb, hb0, hb1⟩ := shl8 (c % 8) (by omega) (by omega)
  have hr := hz.rd (q : Int)
  have hx := bits_xor .u8 8 (by decide) wraps_u8 (rd z q).toNat b (by omega) (by omega)
  rw [show (((rd z q).toNat : Nat) : Int) = rd z q from by omega] at hx
  have hxl : (rd z q).toNat ^^^ b < 256 := Nat.xor_lt_two_pow (n := 8) (by omega) (by omega)
  rw [eb, hx, Int.toNat_natCast]
  have hne : (((rd z q).toNat ^^^ b : Nat) : Int) ≠ rd z q := by
    intro e
    have e' : (rd z q).toNat ^^^ b = (rd z q).toNat := by omega
    have := congrArg (fun t => (rd z q).toNat ^^^ t) e'
    simp only [← Nat.xor_assoc, Nat.xor_self, Nat.zero_xor] at this
    omega
  have hz2 : Byt (z.set q (((rd z q).toNat ^^^ b : Nat) : Int)) := by
    intro x hx
    rcases List.mem_or_eq_of_mem_set hx with hx | hx
    · exact hz x hx
    · omega
  refine Ev.bind (impl_crc _ hz2 (by rw [List.length_set]; omega)) ?_
  have hfin := crc_set hz (i := q) (by omega) (c := (((rd z q).toNat ^^^ b : Nat) : Int)) (by omega) hne
  refine evC (Ev.now _) ?_
  simp only [bne_iff_ne, ne_eq]
  omega

end Go.Proofs.Ytbcfiaenpcgpfaa.Pure
