/- GetText, PutText: what the program's and the reference's functions answer; a number and a text come back of their bytes. No condition. -/
import Derived.Test.YtbcfiaenpcgpfabQf
import Derived.Test.YtbcfiaenpcgpfabPx1
import Derived.Test.YtbcfiaenpcgpfabPx2
namespace Go.Proofs.Ytbcfiaenpcgpfab.Q
open Go.RowKit Go.Proofs.Ytbcfiaenpcgpfab.P Go.Proofs.YtbcfiaenpcgpfabW.PrintWords Go.Proofs.YtbcfiaenpcgpfabW.PrintLast Go.Proofs.YtbcfiaenpcgpfabW.PrintMore

theorem numR_range (m : Nat) : ∀ (t : List Int) (n u i : Int) (v j : Int), Byt t → 0 ≤ n → 0 < u → numR m t n u i = some (v, j) → 0 ≤ v ∧ v ≤ 1000000 ∧ i < j ∧ j ≤ i + t.length := by
  induction m with
  | zero => intro t n u i v j _ _ _ h; cases h
  | succ m ih =>
    intro t n u i v j hb hn hu h
    cases t with
    | nil => cases h
    | cons x t =>
      have hx := hb x List.mem_cons_self
      unfold numR at h
      split at h
      · have := ih t _ _ _ v j (fun y hy => hb y (List.mem_cons_of_mem _ hy)) (by have := Int.mul_nonneg (show 0 ≤ x % 128 by omega) (show 0 ≤ u by omega); omega) (by omega) h
        simp only [List.length_cons]
        omega
      · split at h
        · cases h
        · simp only [Option.some.injEq, Prod.mk.injEq] at h
          have := Int.mul_nonneg hx.1 (show 0 ≤ u by omega)
          simp only [List.length_cons]
          omega
theorem getNum_range {l : List Int} (hb : Byt l) {p : Int} {n q : Int} (h : getNum l p = (n, q, true)) : 0 ≤ n ∧ n ≤ 1000000 ∧ 0 ≤ p ∧ p < q ∧ q ≤ l.length := by
  unfold getNum at h
  split at h
  · cases h
  · cases e : numR 3 (l.drop p.toNat) 0 1 0 with
    | none => rw [e] at h; cases h
    | some r =>
      obtain ⟨v, j⟩ := r
      rw [e] at h
      simp only [numTold, Prod.mk.injEq] at h
      have hr := numR_range 3 _ 0 1 0 v j (fun x hx => hb x (List.mem_of_mem_drop hx)) (by omega) (by omega) e
      rw [List.length_drop] at hr
      omega

def noText : ByteArray × Int × Bool := ((⟨#[]⟩ : ByteArray), 0, false)
def getText (l : List Int) (p : Int) : ByteArray × Int × Bool :=
  let g := getNum l p
  if g.2.2 = true then (if g.1 > l.length - g.2.1 then noText else (strOfNums ((l.take (g.2.1 + g.1).toNat).drop g.2.1.toNat), g.2.1 + g.1, true)) else noText
theorem getText_body {l : List Int} (hb : Byt l) (hl : l.length ≤ 4611686018427387904) (p : Int) :
    (if (getNum l p).2.2 = true then (if (getNum l p).1 > (wrap64 ((l.length : Int) - (getNum l p).2.1)) then (some ((⟨#[]⟩ : ByteArray), (0 : Int), false)) else (if 0 ≤ (getNum l p).2.1 then (if (getNum l p).2.1 ≤ (wrap64 ((getNum l p).2.1 + (getNum l p).1)) then (if (wrap64 ((getNum l p).2.1 + (getNum l p).1)) ≤ (l.length : Int) then (some (strOfNums ((l.take ((wrap64 ((getNum l p).2.1 + (getNum l p).1)) : Int).toNat).drop ((getNum l p).2.1 : Int).toNat), wrap64 ((getNum l p).2.1 + (getNum l p).1), true)) else (none)) else (none)) else (none))) else (some ((⟨#[]⟩ : ByteArray), 0, false))) = some (getText l p) := by
  unfold getText noText
  obtain ⟨n, q, ok⟩ : ∃ n q ok, getNum l p = (n, q, ok) := ⟨_, _, _, rfl⟩
  have hg : ∃ n q ok, getNum l p = (n, q, ok) := ⟨_, _, _, rfl⟩
  obtain ⟨n, q, ok, e⟩ := hg
  rw [e]
  cases ok with
  | false => simp
  | true =>
    have hr := getNum_range hb e
    simp only [if_true]
    rw [w64 (n := (l.length : Int) - q) (by omega) (by omega), w64 (n := q + n) (by omega) (by omega)]
    by_cases h : n > l.length - q
    · rw [if_pos h, if_pos h]
    · rw [if_neg h, if_neg h, if_pos (by omega), if_pos (by omega), if_pos (by omega)]
theorem spec_getText (l : List Int) (hb : Byt l) (hl : l.length ≤ 4611686018427387904) (p : Int) (hp : p ≤ 9223372036854775807) : Ev (fun k => spec_GetText.f k l p) (getText l p) := by
  unfold spec_GetText.f
  refine Ev.bind (spec_getNum l hb hl p hp) ?_
  simp only [getText_body hb hl p]
  exact Ev.now _
theorem impl_getText (l : List Int) (hb : Byt l) (hl : l.length ≤ 4611686018427387904) (p : Int) (hp : p ≤ 9223372036854775807) : Ev (fun k => impl_GetText.f k l p) (getText l p) := by
  unfold impl_GetText.f
  refine Ev.bind (impl_getNum l hb hl p hp) ?_
  simp only [getText_body hb hl p]
  exact Ev.now _
def putText (b : List Int) (s : ByteArray) : List Int := putNum b (s.size : Int) ++ bytesOf s
theorem spec_putText (b : List Int) (hl : b.length ≤ 4611686018426) (s : ByteArray) (hs : s.size ≤ 4611686018426) : Ev (fun k => spec_PutText.f k b s) (putText b s) := by
  unfold spec_PutText.f
  have := putNum_length b (s.size : Int)
  exact Ev.bind (spec_putNum b (by omega) _) (evP (by omega) (Ev.now _))
theorem impl_putText (b : List Int) (hl : b.length ≤ 4611686018426) (s : ByteArray) (hs : s.size ≤ 4611686018426) : Ev (fun k => impl_PutText.f k b s) (putText b s) := by
  unfold impl_PutText.f
  have := putNum_length b (s.size : Int)
  exact Ev.bind (impl_putNum b (by omega) _) (evP (by omega) (Ev.now _))
theorem putText_length (b : List Int) (s : ByteArray) : (putText b s).length ≤ b.length + s.size + 4 := by
  have := putNum_length b (s.size : Int)
  simp [putText, bytesOf_length]; omega
theorem byt_putText {b : List Int} (hb : Byt b) (s : ByteArray) : Byt (putText b s) := byt_app (byt_putNum hb _) (byt_bytesOf s)

theorem numR_putR (v : Int) (h0 : 0 ≤ v) (h1 : v ≤ 1000000) (t : List Int) : numR 3 (putR 3 v ++ t) 0 1 0 = some (v, ((putR 3 v).length : Int)) := by
  by_cases a : 128 ≤ v
  · by_cases b : 128 ≤ v / 128
    · have c : ¬ 128 ≤ v / 128 / 128 := by omega
      simp only [putR, if_pos a, if_pos b, if_neg c, List.cons_append, List.nil_append, numR]
      rw [if_pos (by omega), if_pos (by omega), if_neg (by omega)]
      simp only [List.length_cons, List.length_nil, Option.some.injEq, Prod.mk.injEq]
      omega
    · simp only [putR, if_pos a, if_neg b, List.cons_append, List.nil_append, numR]
      rw [if_pos (by omega), if_neg (by omega)]
      simp only [List.length_cons, List.length_nil, Option.some.injEq, Prod.mk.injEq]
      omega
  · simp only [putR, if_neg a, List.cons_append, List.nil_append, numR]
    simp only [List.length_cons, List.length_nil]
    rw [if_neg (by omega)]
    simp only [Option.some.injEq, Prod.mk.injEq]
    omega
theorem numR_cut (v : Int) (h0 : 0 ≤ v) (h1 : v ≤ 1000000) : numR 3 ((putR 3 v).take ((putR 3 v).length - 1)) 0 1 0 = none := by
  by_cases a : 128 ≤ v
  · by_cases b : 128 ≤ v / 128
    · have c : ¬ 128 ≤ v / 128 / 128 := by omega
      simp only [putR, if_pos a, if_pos b, if_neg c]
      simp only [List.length_cons, List.length_nil, Nat.reduceAdd, Nat.reduceSub, List.take_succ_cons, List.take_zero, numR]
      rw [if_pos (by omega), if_pos (by omega)]
    · simp only [putR, if_pos a, if_neg b]
      simp only [List.length_cons, List.length_nil, Nat.reduceAdd, Nat.reduceSub, List.take_succ_cons, List.take_zero, numR]
      rw [if_pos (by omega)]
  · simp only [putR, if_neg a]
    simp [numR]
theorem putR_pos (m : Nat) (v : Int) : 0 < (putR m v).length := by
  cases m with
  | zero => simp [putR]
  | succ m => unfold putR; split <;> simp
theorem getNum_put (b : List Int) (n : Int) (t : List Int) : getNum (putNum b n ++ t) (b.length : Int) = (clamp n, ((putNum b n).length : Int), true) := by
  have hc := clamp_range n
  unfold getNum
  rw [if_neg (by omega), Int.toNat_natCast, putNum, List.append_assoc, List.drop_left, numR_putR _ hc.1 hc.2]
  simp [numTold]
theorem getNum_cut (b : List Int) (n : Int) : getNum ((putNum b n).take ((putNum b n).length - 1)) (b.length : Int) = (0, 0, false) := by
  have hc := clamp_range n
  have hp := putR_pos 3 (clamp n)
  unfold getNum
  rw [if_neg (by omega), Int.toNat_natCast, putNum, List.length_append, List.take_append, List.take_of_length_le (by omega), show b.length + (putR 3 (clamp n)).length - 1 - b.length = (putR 3 (clamp n)).length - 1 from by omega, List.drop_left, numR_cut _ hc.1 hc.2]
  rfl
theorem str_bytes (s : ByteArray) : strOfNums (bytesOf s) = s := by
  have : (bytesOf s).map (fun n => UInt8.ofNat n.toNat) = s.data.toList := by
    simp [bytesOf, Function.comp_def]
  unfold strOfNums
  rw [this]
theorem getText_put (b : List Int) (s : ByteArray) (hs : s.size ≤ 1000000) : getText (putText b s) (b.length : Int) = (s, ((putText b s).length : Int), true) := by
  unfold getText putText
  rw [getNum_put]
  have hc : clamp (s.size : Int) = s.size := by unfold clamp; omega
  have hl : (putNum b (s.size : Int) ++ bytesOf s).length = (putNum b (s.size : Int)).length + s.size := by rw [List.length_append, bytesOf_length]
  simp only [if_true]
  rw [if_neg (by rw [hc, hl]; omega), hc, hl]
  simp only [Prod.mk.injEq, and_true]
  refine ⟨?_, by omega⟩
  rw [List.take_of_length_le (by rw [hl]; omega), Int.toNat_natCast, List.drop_left, str_bytes]
end Go.Proofs.Ytbcfiaenpcgpfab.Q
