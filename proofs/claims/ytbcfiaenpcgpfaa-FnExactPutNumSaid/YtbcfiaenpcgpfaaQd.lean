/- Crc: what the program's and the reference's functions answer, in plain words; a sum turns with any one byte. No condition. -/
import Derived.Test.YtbcfiaenpcgpfaaQc
namespace Go.Proofs.Ytbcfiaenpcgpfaa.Q
open Go.RowKit Go.Proofs.Ytbcfiaenpcgpfaa.P Go.Proofs.YtbcfiaenpcgpfaaW.PrintWords Go.Proofs.YtbcfiaenpcgpfaaW.PrintLast Go.Proofs.YtbcfiaenpcgpfaaW.PrintMore

theorem wraps_u32 (n : Int) (h₀ : 0 ≤ n) (h₁ : n < 2 ^ 32) : IntKind.u32.wrap n = n := by rw [IntKind.wrap_u32]; omega
theorem bits_xor (k : IntKind) (j : Nat) (hj : j ≤ k.bits) (hk : ∀ n : Int, 0 ≤ n → n < 2 ^ j → k.wrap n = n) (a b : Nat) (ha : a < 2 ^ j) (hb : b < 2 ^ j) :
    Go.bits .xor k a b = ((a ^^^ b : Nat) : Int) := by
  have hp : 2 ^ j ≤ 2 ^ k.bits := Nat.pow_le_pow_right (by decide) hj
  have ha' : a % 2 ^ k.bits = a := Nat.mod_eq_of_lt (Nat.lt_of_lt_of_le ha hp)
  have hb' : b % 2 ^ k.bits = b := Nat.mod_eq_of_lt (Nat.lt_of_lt_of_le hb hp)
  simp only [Go.bits, BitVec.ofInt_natCast, BitVec.toNat_xor, BitVec.toNat_ofNat, ha', hb']
  exact hk _ (Int.natCast_nonneg _) (by exact_mod_cast Nat.xor_lt_two_pow ha hb)
theorem xor64 (a b : Nat) (ha : a < 4294967296) (hb : b < 4294967296) : Go.bits .xor .i64 a b = ((a ^^^ b : Nat) : Int) := bits_xor .i64 63 (by decide) wraps_i64 a b (by omega) (by omega)
theorem xor32 (a b : Nat) (ha : a < 4294967296) (hb : b < 4294967296) : Go.bits .xor .u32 a b = ((a ^^^ b : Nat) : Int) := bits_xor .u32 32 (by decide) wraps_u32 a b (by omega) (by omega)
theorem and64_1 (a : Nat) (ha : a < 4294967296) : Go.bits .and .i64 a 1 = ((a % 2 : Nat) : Int) := by
  have := bits_mask .i64 63 (by decide) wraps_i64 1 (by decide) (a : Int) (by omega) (by omega)
  simpa using this
theorem and32_1 (a : Nat) (ha : a < 4294967296) : Go.bits .and .u32 a 1 = ((a % 2 : Nat) : Int) := by
  have := bits_mask .u32 32 (by decide) wraps_u32 1 (by decide) (a : Int) (by omega) (by omega)
  simpa using this

def crcS (x : Nat) : Nat := if x % 2 = 1 then (x / 2) ^^^ 2197175160 else x / 2
def crc8 : Nat → Nat → Nat
  | 0, x => x
  | n + 1, x => crc8 n (crcS x)
def crcB (x : Nat) (b : Int) : Nat := crc8 8 (x ^^^ b.toNat)
def crcF (l : List Int) (x : Nat) : Nat := l.foldl crcB x
def crc (l : List Int) : Nat := crcF l 4294967295 ^^^ 4294967295

theorem xor_lt32 {a b : Nat} (ha : a < 4294967296) (hb : b < 4294967296) : a ^^^ b < 4294967296 := Nat.xor_lt_two_pow (n := 32) ha hb
theorem crcS_lt {x : Nat} (h : x < 4294967296) : crcS x < 4294967296 := by
  unfold crcS
  split
  · exact xor_lt32 (by omega) (by omega)
  · omega
theorem crc8_lt (n : Nat) : ∀ {x : Nat}, x < 4294967296 → crc8 n x < 4294967296 := by
  induction n with
  | zero => intro x h; exact h
  | succ n ih => intro x h; exact ih (crcS_lt h)
theorem crcB_lt {x : Nat} {b : Int} (h : x < 4294967296) (hb : 0 ≤ b ∧ b ≤ 255) : crcB x b < 4294967296 := crc8_lt 8 (xor_lt32 h (by omega))
theorem crcF_lt (l : List Int) : ∀ {x : Nat}, Byt l → x < 4294967296 → crcF l x < 4294967296 := by
  induction l with
  | nil => intro x _ h; exact h
  | cons b l ih => intro x hb h; exact ih (fun y hy => hb y (List.mem_cons_of_mem _ hy)) (crcB_lt h (hb b List.mem_cons_self))
theorem crc_lt (l : List Int) (hb : Byt l) : crc l < 4294967296 := xor_lt32 (crcF_lt l hb (by omega)) (by omega)

theorem xor_cancel {a b c : Nat} (h : a ^^^ c = b ^^^ c) : a = b := by
  have := congrArg (· ^^^ c) h
  simpa [Nat.xor_assoc] using this
theorem crcS_inj {x y : Nat} (hx : x < 4294967296) (hy : y < 4294967296) (h : crcS x = crcS y) : x = y := by
  have key : ∀ a b : Nat, a < 2147483648 → b < 2147483648 → a ^^^ 2197175160 = b → False := by
    intro a b ha hb e
    have h2 : a ^^^ (a ^^^ 2197175160) = a ^^^ b := by rw [e]
    rw [← Nat.xor_assoc, Nat.xor_self, Nat.zero_xor] at h2
    have := Nat.xor_lt_two_pow (n := 31) (x := a) (y := b) ha hb
    omega
  unfold crcS at h
  by_cases h1 : x % 2 = 1 <;> by_cases h2 : y % 2 = 1
  · rw [if_pos h1, if_pos h2] at h
    have := xor_cancel h
    omega
  · rw [if_pos h1, if_neg h2] at h
    exact (key _ _ (by omega) (by omega) h).elim
  · rw [if_neg h1, if_pos h2] at h
    exact (key _ _ (by omega) (by omega) h.symm).elim
  · rw [if_neg h1, if_neg h2] at h
    omega
theorem crc8_inj (n : Nat) : ∀ {x y : Nat}, x < 4294967296 → y < 4294967296 → crc8 n x = crc8 n y → x = y := by
  induction n with
  | zero => intro x y _ _ h; exact h
  | succ n ih => intro x y hx hy h; exact crcS_inj hx hy (ih (crcS_lt hx) (crcS_lt hy) h)
theorem crcB_inj_state {x y : Nat} {b : Int} (hb : 0 ≤ b ∧ b ≤ 255) (hx : x < 4294967296) (hy : y < 4294967296) (h : crcB x b = crcB y b) : x = y :=
  xor_cancel (crc8_inj 8 (xor_lt32 hx (by omega)) (xor_lt32 hy (by omega)) h)
theorem crcB_inj_byte {x : Nat} {b c : Int} (hb : 0 ≤ b ∧ b ≤ 255) (hc : 0 ≤ c ∧ c ≤ 255) (hx : x < 4294967296) (h : crcB x b = crcB x c) : b = c := by
  have := crc8_inj 8 (xor_lt32 hx (by omega)) (xor_lt32 hx (by omega)) h
  rw [Nat.xor_comm x, Nat.xor_comm x] at this
  have := xor_cancel this
  omega
theorem crcF_inj (l : List Int) : ∀ {x y : Nat}, Byt l → x < 4294967296 → y < 4294967296 → crcF l x = crcF l y → x = y := by
  induction l with
  | nil => intro x y _ _ _ h; exact h
  | cons b l ih =>
    intro x y hb hx hy h
    have hb0 := hb b List.mem_cons_self
    exact crcB_inj_state hb0 hx hy (ih (fun z hz => hb z (List.mem_cons_of_mem _ hz)) (crcB_lt hx hb0) (crcB_lt hy hb0) h)
/-- Another byte at one place: another sum. -/
theorem crc_set {l : List Int} (hb : Byt l) {i : Nat} (hi : i < l.length) {c : Int} (hc : 0 ≤ c ∧ c ≤ 255) (hne : c ≠ rd l i) : crc (l.set i c) ≠ crc l := by
  intro h
  have h := xor_cancel h
  have e0 : l = l.take i ++ rd l i :: l.drop (i + 1) := by rw [← drop_cons l i hi, List.take_append_drop]
  have e1 : l.set i c = l.take i ++ c :: l.drop (i + 1) := by rw [List.set_eq_take_append_cons_drop, if_pos hi]
  have ht : Byt (l.take i) := fun x hx => hb x (List.mem_of_mem_take hx)
  have hd : Byt (l.drop (i + 1)) := fun x hx => hb x (List.mem_of_mem_drop hx)
  have hr := hb.rd (i : Int)
  rw [e1] at h
  conv at h => rhs; rw [e0]
  simp only [crcF, List.foldl_append, List.foldl_cons] at h
  have hs := crcF_lt (l.take i) ht (x := 4294967295) (by omega)
  exact hne (crcB_inj_byte hc hr hs (crcF_inj (l.drop (i + 1)) hd (crcB_lt hs hc) (crcB_lt hs hr) h))

theorem spec_crc_in (l : List Int) (i R : Nat) (n : Nat) : ∀ (j x : Nat), j + n = 8 → x < 4294967296 →
    Ev (fun k => spec_Crc.l0 k l (crc8 n x : Nat) (wrap64 ((i : Int) + 1))) (R : Int) → Ev (fun k => spec_Crc.l1 k l x i j) (R : Int) := by
  induction n with
  | zero =>
    intro j x hj hx h
    apply evPre
    simp only [spec_Crc.l1]
    exact evN (by omega) h
  | succ n ih =>
    intro j x hj hx h
    have ih := ih (j + 1) (crcS x) (by omega) (crcS_lt hx) h
    rw [show ((j + 1 : Nat) : Int) = wrap64 ((j : Int) + 1) from by rw [w64 (by omega) (by omega)]; simp] at ih
    apply evPre
    simp only [spec_Crc.l1]
    refine evP (by omega) ?_
    rw [and64_1 x hx, show ((x : Int) / 2) = ((x / 2 : Nat) : Int) from by omega]
    have e := xor64 (x / 2) 2197175160 (by omega) (by omega)
    rw [show ((2197175160 : Nat) : Int) = 2197175160 from rfl] at e
    rw [e]
    by_cases h1 : x % 2 = 1
    · refine evP (by omega) ?_
      simpa [crcS, h1] using ih
    · refine evN (by omega) ?_
      simpa [crcS, h1] using ih
theorem spec_crc_loop (l : List Int) (hb : Byt l) (hl : l.length ≤ 4611686018427387904) (n : Nat) : ∀ (i x : Nat), i ≤ l.length → l.length - i = n → x < 4294967296 →
    Ev (fun k => spec_Crc.l0 k l x i) ((crcF (l.drop i) x ^^^ 4294967295 : Nat) : Int) := by
  induction n with
  | zero =>
    intro i x hi hn hx
    apply evPre
    simp only [spec_Crc.l0]
    refine evN (by omega) ?_
    have e := xor64 x 4294967295 hx (by omega)
    rw [show ((4294967295 : Nat) : Int) = 4294967295 from rfl] at e
    rw [e, List.drop_eq_nil_of_le (by omega)]
    exact Ev.now _
  | succ n ih =>
    intro i x hi hn hx
    have hr := hb.rd (i : Int)
    have ih := ih (i + 1) (crcB x (rd l i)) (by omega) (by omega) (crcB_lt hx hr)
    rw [show ((i + 1 : Nat) : Int) = wrap64 ((i : Int) + 1) from by rw [w64 (by omega) (by omega)]; simp] at ih
    apply evPre
    simp only [spec_Crc.l0]
    refine evP (by omega) (evP (by omega) ?_)
    rw [w64 (n := rd l i) (by omega) (by omega), drop_cons l i (by omega)]
    have e := xor64 x (rd l i).toNat hx (by omega)
    rw [show (((rd l i).toNat : Nat) : Int) = rd l i from by omega] at e
    rw [e]
    exact spec_crc_in l i _ 8 0 _ rfl (xor_lt32 hx (by omega)) ih
theorem spec_crc (l : List Int) (hb : Byt l) (hl : l.length ≤ 4611686018427387904) : Ev (fun k => spec_Crc.f k l) (crc l : Int) := by
  simpa [spec_Crc.f, crc] using spec_crc_loop l hb hl l.length 0 4294967295 (by omega) (by omega) (by omega)

theorem impl_crc_in (l : List Int) (L : Int) (i R : Nat) (n : Nat) : ∀ (j x : Nat), j + n = 8 → x < 4294967296 →
    Ev (fun k => impl_Crc.l0 k (crc8 n x : Nat) l L (wrap64 ((i : Int) + 1))) (R : Int) → Ev (fun k => impl_Crc.l1 k x l L i j) (R : Int) := by
  induction n with
  | zero =>
    intro j x hj hx h
    apply evPre
    simp only [impl_Crc.l1]
    exact evN (by omega) h
  | succ n ih =>
    intro j x hj hx h
    have ih := ih (j + 1) (crcS x) (by omega) (crcS_lt hx) h
    rw [show ((j + 1 : Nat) : Int) = wrap64 ((j : Int) + 1) from by rw [w64 (by omega) (by omega)]; simp] at ih
    apply evPre
    simp only [impl_Crc.l1]
    refine evP (by omega) ?_
    rw [and32_1 x hx, show ((x : Int) / 2) = ((x / 2 : Nat) : Int) from by omega]
    have e := xor32 (x / 2) 2197175160 (by omega) (by omega)
    rw [show ((2197175160 : Nat) : Int) = 2197175160 from rfl] at e
    rw [e]
    by_cases h1 : x % 2 = 1
    · refine evP (by omega) ?_
      simpa [crcS, h1] using ih
    · refine evN (by omega) ?_
      simpa [crcS, h1] using ih
theorem impl_crc_loop (l : List Int) (hb : Byt l) (hl : l.length ≤ 4611686018427387904) (n : Nat) : ∀ (i x : Nat), i ≤ l.length → l.length - i = n → x < 4294967296 →
    Ev (fun k => impl_Crc.l0 k x l (l.length : Int) i) ((crcF (l.drop i) x ^^^ 4294967295 : Nat) : Int) := by
  induction n with
  | zero =>
    intro i x hi hn hx
    apply evPre
    simp only [impl_Crc.l0]
    refine evN (by omega) ?_
    have e := xor32 4294967295 x (by omega) hx
    rw [show ((4294967295 : Nat) : Int) = 4294967295 from rfl] at e
    have := xor_lt32 (a := 4294967295) (b := x) (by omega) hx
    rw [e, w64 (by omega) (by omega), List.drop_eq_nil_of_le (by omega), Nat.xor_comm]
    exact Ev.now _
  | succ n ih =>
    intro i x hi hn hx
    have hr := hb.rd (i : Int)
    have ih := ih (i + 1) (crcB x (rd l i)) (by omega) (by omega) (crcB_lt hx hr)
    rw [show ((i + 1 : Nat) : Int) = wrap64 ((i : Int) + 1) from by rw [w64 (by omega) (by omega)]; simp] at ih
    apply evPre
    simp only [impl_Crc.l0]
    refine evP (by omega) (evP (by omega) (evP (by omega) ?_))
    rw [show rd l i % 4294967296 = rd l i from by omega, drop_cons l i (by omega)]
    have e := xor32 x (rd l i).toNat hx (by omega)
    rw [show (((rd l i).toNat : Nat) : Int) = rd l i from by omega] at e
    rw [e]
    exact impl_crc_in l _ i _ 8 0 _ rfl (xor_lt32 hx (by omega)) ih
theorem impl_crc (l : List Int) (hb : Byt l) (hl : l.length ≤ 4611686018427387904) : Ev (fun k => impl_Crc.f k l) (crc l : Int) := by
  simpa [impl_Crc.f, crc] using impl_crc_loop l hb hl l.length 0 4294967295 (by omega) (by omega) (by omega)
end Go.Proofs.Ytbcfiaenpcgpfaa.Q
