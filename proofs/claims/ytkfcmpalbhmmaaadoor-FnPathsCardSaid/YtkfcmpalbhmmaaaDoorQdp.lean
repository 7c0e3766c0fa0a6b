/- Drawn names and paths: the reference's functions answer, and how long. No condition. -/
import Derived.Test.YtkfcmpalbhmmaaaDoorQcu
import Derived.Test.YtkfcmpalbhmmaaaDoorQnm
import Derived.Test.YtkfcmpalbhmmaaaDoorPx1
namespace Go.Proofs.YtkfcmpalbhmmaaaDoor.Q
open Go.RowKit Go.Proofs.YtkfcmpalbhmmaaaDoor.P Go.Proofs.YtkfcmpalbhmmaaaDoorW.PrintWords Go.Proofs.YtkfcmpalbhmmaaaDoorW.PrintLast Go.Proofs.YtkfcmpalbhmmaaaDoorW.PrintMore

theorem l1Once_ev {b : List Int} {i : Int} (hc : Cur b i) (h n : Int) : ∃ t i' h', spec_l1Once.f b i h n = some (t, i', h') ∧ Cur b i' := by
  unfold spec_l1Once.f
  obtain ⟨x, i1, h1, e, _, _, _, hc1⟩ := l1Below_ev hc h n
  rw [e, Option.bind_some]
  exact ⟨_, _, _, rfl, hc1⟩
theorem l1Str_ev {b : List Int} {i : Int} (hc : Cur b i) (h : Int) (l : List ByteArray) (hl : 0 < l.length) : ∃ s i' h', spec_l1Str.f b i h l = some (s, i', h') ∧ s ∈ l ∧ Cur b i' := by
  unfold spec_l1Str.f
  obtain ⟨x, i1, h1, e, hx0, hx1, _, hc1⟩ := l1Below_ev hc h (l.length : Int)
  have := hx1 (by omega)
  rw [e, Option.bind_some, if_pos hx0, if_pos this]
  refine ⟨_, _, _, rfl, ?_, hc1⟩
  obtain ⟨n, rfl⟩ := Int.eq_ofNat_of_zero_le hx0
  rw [rdS l n (by omega)]
  exact List.getElem_mem _
theorem size_of_all (l : List ByteArray) (m : Nat) (h : (l.all fun x => decide (x.size ≤ m)) = true) : ∀ x ∈ l, x.size ≤ m := fun x hx => by simpa using List.all_eq_true.1 h x hx
theorem l2Name_ev {b : List Int} {i : Int} (hc : Cur b i) (h : Int) : ∃ s i' h', spec_l2Name.f b i h = some (s, i', h') ∧ s.size ≤ 5 ∧ Cur b i' := by
  unfold spec_l2Name.f
  obtain ⟨s, i1, h1, e, hs, hc1⟩ := l1Str_ev hc h [(⟨#[97]⟩ : ByteArray), (⟨#[98]⟩ : ByteArray), (⟨#[99]⟩ : ByteArray), (⟨#[100, 46, 116, 120, 116]⟩ : ByteArray)] (by simp)
  rw [e, Option.bind_some]
  exact ⟨_, _, _, rfl, size_of_all _ 5 (by decide) s hs, hc1⟩
theorem l2Path_loop {b : List Int} (n : Nat) : ∀ (m : Int) (acc : ByteArray) (i h : Int), Cur b i → m.toNat = n → m ≤ 1000000 → acc.size + 6 * n ≤ 9000000 →
    ∃ s i' h', Ev (fun k => spec_l2Path.l0 k acc m b i h) (s, i', h') ∧ s.size ≤ acc.size + 6 * n ∧ Cur b i' := by
  induction n with
  | zero =>
    intro m acc i h hc hm _ hs
    refine ⟨acc, i, h, ?_, by omega, hc⟩
    apply evPre
    simp only [spec_l2Path.l0]
    exact evN (by omega) (Ev.now _)
  | succ n ih =>
    intro m acc i h hc hm h9 hs
    obtain ⟨x, i1, h1, e, hx, hc1⟩ := l2Name_ev hc h
    have hsz : (acc ++ (⟨#[47]⟩ : ByteArray)).size = acc.size + 1 := by rw [ByteArray.size_append]; rfl
    obtain ⟨s, i2, h2, e2, hs2, hc2⟩ := ih (m - 1) ((acc ++ (⟨#[47]⟩ : ByteArray)) ++ x) i1 h1 hc1 (by omega) (by omega) (by rw [ByteArray.size_append, hsz]; omega)
    rw [ByteArray.size_append, hsz] at hs2
    refine ⟨s, i2, h2, ?_, by omega, hc2⟩
    apply evPre
    simp only [spec_l2Path.l0, e, Option.bind_some]
    rw [w64 (by omega) (by omega)]
    exact evP (by omega) (evP (by omega) (evP (by rw [hsz]; omega) e2))
theorem l2Path_ev {b : List Int} {i : Int} (hc : Cur b i) (h : Int) : ∃ s i' h', Ev (fun k => spec_l2Path.f k b i h) (s, i', h') ∧ s.size ≤ 100 ∧ Cur b i' := by
  unfold spec_l2Path.f
  obtain ⟨x, i1, h1, e, hx0, hx1, _, hc1⟩ := l1Below_ev hc h 3
  have := hx1 (by omega)
  obtain ⟨s, i2, h2, e2, hs, hc2⟩ := l2Path_loop (1 + x).toNat (1 + x) ⟨#[]⟩ i1 h1 hc1 rfl (by omega) (by have : (⟨#[]⟩ : ByteArray).size = 0 := rfl; omega)
  have h0 : (⟨#[]⟩ : ByteArray).size = 0 := rfl
  refine ⟨s, i2, h2, ?_, by omega, hc2⟩
  simp only [e, Option.bind_some]
  rw [w64 (by omega) (by omega)]
  exact e2
theorem l2Any_ev {b : List Int} {i : Int} (hc : Cur b i) (h : Int) : ∃ s i' h', Ev (fun k => spec_l2Any.f k b i h) (s, i', h') ∧ s.size ≤ 100 ∧ Cur b i' := by
  unfold spec_l2Any.f
  obtain ⟨t, i1, h1, e, hc1⟩ := l1Once_ev hc h 6
  simp only [e, Option.bind_some]
  cases t with
  | true =>
    obtain ⟨s, i2, h2, e2, hs, hc2⟩ := l1Str_ev hc1 h1 [(⟨#[]⟩ : ByteArray), (⟨#[47]⟩ : ByteArray), (⟨#[97]⟩ : ByteArray), (⟨#[47, 47]⟩ : ByteArray), (⟨#[47, 97, 47]⟩ : ByteArray), (⟨#[47, 65]⟩ : ByteArray), (⟨#[47, 46, 46]⟩ : ByteArray), (⟨#[47, 46]⟩ : ByteArray), (⟨#[47, 102, 105, 102, 116, 101, 101, 110, 98, 121, 116, 101, 115, 120, 120, 120]⟩ : ByteArray), (⟨#[47, 97, 47, 47, 98]⟩ : ByteArray)] (by simp)
    refine ⟨s, i2, h2, ?_, size_of_all _ 100 (by decide) s hs, hc2⟩
    simp only [e2, Option.bind_some]
    exact evP trivial (Ev.now _)
  | false =>
    obtain ⟨s, i2, h2, e2, hs, hc2⟩ := l2Path_ev hc1 h1
    exact ⟨s, i2, h2, evN (by simp) (Ev.bind e2 (Ev.now _)), hs, hc2⟩
end Go.Proofs.YtkfcmpalbhmmaaaDoor.Q
