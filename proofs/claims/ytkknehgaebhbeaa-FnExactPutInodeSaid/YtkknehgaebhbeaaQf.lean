/- PutNum: what the program's and the reference's functions answer. No condition. -/
import Derived.Test.YtkknehgaebhbeaaQc
import Derived.Test.YtkknehgaebhbeaaQbt
import Derived.Test.YtkknehgaebhbeaaPx8
import Derived.Test.YtkknehgaebhbeaaPx9
namespace Go.Proofs.Ytkknehgaebhbeaa.Q
open Go.RowKit Go.Proofs.Ytkknehgaebhbeaa.P Go.Proofs.YtkknehgaebhbeaaW.PrintWords Go.Proofs.YtkknehgaebhbeaaW.PrintLast Go.Proofs.YtkknehgaebhbeaaW.PrintMore

/-- A number in groups of seven bits; m: how many groups more there may be. -/
def putR : Nat → Int → List Int
  | 0, n => [n]
  | m + 1, n => if 128 ≤ n then (n % 128 + 128) :: putR m (n / 128) else [n]
def clamp (n : Int) : Int := max 0 (min n 1000000)
def putNum (b : List Int) (n : Int) : List Int := b ++ putR 3 (clamp n)
theorem clamp_range (n : Int) : 0 ≤ clamp n ∧ clamp n ≤ 1000000 := by unfold clamp; omega
theorem byt_putR (m : Nat) : ∀ n : Int, 0 ≤ n → n < 128 ^ (m + 1) → Byt (putR m n) := by
  induction m with
  | zero => intro n h0 h1 x hx; simp [putR] at hx; omega
  | succ m ih =>
    intro n h0 h1 x hx
    unfold putR at hx
    split at hx
    · rcases List.mem_cons.1 hx with hx | hx
      · omega
      · refine ih (n / 128) (by omega) ?_ x hx
        rw [Int.ediv_lt_iff_lt_mul (by omega)]
        rw [Int.pow_succ] at h1
        exact h1
    · simp at hx; omega
theorem byt_app {a b : List Int} (ha : Byt a) (hb : Byt b) : Byt (a ++ b) := fun x hx => (List.mem_append.1 hx).elim (ha x) (hb x)
theorem byt_putNum {b : List Int} (hb : Byt b) (n : Int) : Byt (putNum b n) := by
  have h := clamp_range n
  exact byt_app hb (byt_putR 3 _ (by omega) (by omega))
theorem putR_length (m : Nat) : ∀ n : Int, (putR m n).length ≤ m + 1 := by
  induction m with
  | zero => intro n; simp [putR]
  | succ m ih =>
    intro n
    unfold putR
    split
    · have := ih (n / 128); simp; omega
    · simp
theorem putNum_length (b : List Int) (n : Int) : (putNum b n).length ≤ b.length + 4 := by
  have := putR_length 3 (clamp n)
  simp [putNum]; omega

theorem spec_put_loop (m : Nat) : ∀ (n : Int) (xs : List Int), xs.length + m < 140737488355328 → 0 ≤ n → n ≤ 9223372036854775807 → n < 128 ^ (m + 1) → Ev (fun k => spec_PutNum.l0 k n xs) (xs ++ putR m n) := by
  induction m with
  | zero =>
    intro n xs hl h0 _ h1
    apply evPre
    simp only [spec_PutNum.l0]
    refine evN (by omega) (evP (by omega) (evC (Ev.now _) ?_))
    simp [putR]; omega
  | succ m ih =>
    intro n xs hl h0 h2 h1
    apply evPre
    simp only [spec_PutNum.l0, putR]
    by_cases h : 128 ≤ n
    · rw [if_pos h]
      refine evP (by omega) (evP (by omega) ?_)
      have hlt : n / 128 < 128 ^ (m + 1) := by
        rw [Int.ediv_lt_iff_lt_mul (by omega)]
        rw [Int.pow_succ] at h1
        exact h1
      rw [and127 n h0 (by omega), or_join 7 (by omega) 128 (n % 128) (by omega) (by omega) (by omega) (by omega) (by omega), show (n % 128 + 128) % 256 = n % 128 + 128 from by omega]
      simpa using ih (n / 128) (xs ++ [n % 128 + 128]) (by simp; omega) (by omega) (by omega) hlt
    · rw [if_neg h]
      refine evN (by omega) (evP (by omega) (evC (Ev.now _) ?_))
      rw [show n % 256 = n from by omega]
theorem spec_putNum (b : List Int) (hl : b.length ≤ 4611686018427) (n : Int) : Ev (fun k => spec_PutNum.f k b n) (putNum b n) := by
  unfold spec_PutNum.f
  simp only [Option.bind_some, List.nil_append]
  refine evP (by simp; omega) ?_
  have hc := clamp_range n
  have h := spec_put_loop 3 (clamp n) b (by omega) (by omega) (by omega) (by omega)
  refine evI' (fun h1 => ?_) (fun h1 => ?_)
  · apply evPre
    simp only [spec_PutNum.j0]
    refine evN (by omega) ?_
    apply evPre
    simp only [spec_PutNum.j1]
    rw [show (1000000 : Int) = clamp n from by unfold clamp; omega]
    exact h
  · apply evPre
    simp only [spec_PutNum.j0]
    refine evI' (fun h2 => ?_) (fun h2 => ?_)
    · apply evPre
      simp only [spec_PutNum.j1]
      rw [show (0 : Int) = clamp n from by unfold clamp; omega]
      exact h
    · apply evPre
      simp only [spec_PutNum.j1]
      have e : clamp n = n := by unfold clamp; omega
      unfold putNum
      rw [e] at h ⊢
      exact h

theorem impl_put_loop (m : Nat) : ∀ (n : Int) (xs : List Int), xs.length + m < 140737488355328 → 0 ≤ n → n ≤ 9223372036854775807 → n < 128 ^ (m + 1) → Ev (fun k => impl_PutNum.l0 k n xs) (xs ++ putR m n) := by
  induction m with
  | zero =>
    intro n xs hl h0 _ h1
    apply evPre
    simp only [impl_PutNum.l0]
    refine evN (by omega) (evP (by omega) (evC (Ev.now _) ?_))
    simp [putR]; omega
  | succ m ih =>
    intro n xs hl h0 h2 h1
    apply evPre
    simp only [impl_PutNum.l0, putR]
    by_cases h : 128 ≤ n
    · rw [if_pos h]
      refine evP (by omega) (evP (by omega) ?_)
      have hlt : n / 128 < 128 ^ (m + 1) := by
        rw [Int.ediv_lt_iff_lt_mul (by omega)]
        rw [Int.pow_succ] at h1
        exact h1
      rw [Int.tdiv_eq_ediv_of_nonneg h0, Int.tmod_eq_emod_of_nonneg h0, w64 (n := n / 128) (by omega) (by omega), w64 (n := n % 128 + 128) (by omega) (by omega), show (n % 128 + 128) % 256 = n % 128 + 128 from by omega]
      simpa using ih (n / 128) (xs ++ [n % 128 + 128]) (by simp; omega) (by omega) (by omega) hlt
    · rw [if_neg h]
      refine evN (by omega) (evP (by omega) (evC (Ev.now _) ?_))
      rw [show n % 256 = n from by omega]
theorem clone_bytes (l : List Int) (h : l.length < 140737488355328) : slices_Clone_byte_byte.f l = some l := by
  simp [slices_Clone_byte_byte.f, h]
theorem impl_putNum (b : List Int) (hl : b.length ≤ 4611686018427) (n : Int) : Ev (fun k => impl_PutNum.f k b n) (putNum b n) := by
  unfold impl_PutNum.f
  rw [clone_bytes b (by omega)]
  simp only [Option.bind_some]
  have hc := clamp_range n
  rw [show mx 0 (mn n 1000000) = clamp n from by unfold mx mn clamp; repeat' split <;> omega]
  exact impl_put_loop 3 (clamp n) b (by omega) (by omega) (by omega) (by omega)

end Go.Proofs.Ytkknehgaebhbeaa.Q
