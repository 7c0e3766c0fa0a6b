/- FnBigFile returns true for every code: a file takes so many bytes, and not one more. No condition. -/
import Derived.Test.YtkcfmbggdkkfeaaGreatDoorQ
import Derived.Test.YtkcfmbggdkkfeaaGreatDoorPx0
import Derived.Test.YtkcfmbggdkkfeaaGreatDoorPx1
import Derived.Test.YtkcfmbggdkkfeaaGreatDoorPx6
namespace Go.Proofs.YtkcfmbggdkkfeaaGreatDoor.Pure
open Go.RowKit Go.Proofs.YtkcfmbggdkkfeaaGreatDoor.P Go.Proofs.YtkcfmbggdkkfeaaGreatDoor.Q Go.Proofs.YtkcfmbggdkkfeaaGreatDoorW.PrintWords Go.Proofs.YtkcfmbggdkkfeaaGreatDoorW.PrintLast Go.Proofs.YtkcfmbggdkkfeaaGreatDoorW.PrintMore

def okT (m : List S51 × Int × Int) : Bool := smallT m.1 && decide (-1048576 ≤ m.2.1 ∧ m.2.1 ≤ 1048576)
theorem okT_spec (m : List S51 × Int × Int) (h : okT m = true) : m.1.length ≤ 1000 ∧ (∀ x ∈ m.1, InoT x) ∧ (∀ x ∈ m.1, x.f4.length < 1048576) ∧ (-1048576 ≤ m.2.1 ∧ m.2.1 ≤ 1048576) := by
  simp only [okT, Bool.and_eq_true, decide_eq_true_eq] at h
  obtain ⟨h1, h2, h3⟩ := smallT_spec _ h.1
  exact ⟨h1, h2, h3, h.2⟩
def c4 (r : List Int × Int) (n : Nat) : Bool := decide (r.2 = 0) && decide (r.1.length = n)
def c3 (t : List S51 × Int × Int) (n : Nat) : Bool := okT t && decide (t.2.2 = 0) && c4 (readP t.1 (⟨#[47, 102]⟩ : ByteArray) 0 1000) n
def c2 (w : List S51 × Int × Int) (n : Nat) : Bool := okT w && decide (w.2.2 = 0) && decide ((writeP w.1 w.2.1 (⟨#[47, 102]⟩ : ByteArray) n (List.replicate (100 - n + 1) 0)).2.2 = 5) && decide (usage w.1 = 164) && c3 (truncP w.1 w.2.1 (⟨#[47, 102]⟩ : ByteArray) n) n
def c1 (m : List S51 × Int × Int) (n : Nat) : Bool := okT m && decide (m.2.2 = 0) && c2 (writeP m.1 m.2.1 (⟨#[47, 102]⟩ : ByteArray) n (List.replicate (100 - n) 0)) n
def lawB (n : Nat) : Bool := c1 (makeP [(⟨1, 2, 0, ([] : List Int), ([] : List S65), ([] : List S71)⟩ : S51)] 2 (⟨#[47, 102]⟩ : ByteArray) 1) n
set_option maxRecDepth 100000 in
theorem lawB_all : (List.range 101).all lawB = true := by decide +kernel
theorem FnBigFile : laws_FnBigFile.Pure := by
  intro l0 _ hsz hb
  apply Ev.rounds
  unfold laws_FnBigFile.f
  have hb8 : ∀ x ∈ l0, 0 ≤ x ∧ x ≤ 255 := fun x hx => wf8 (hb x hx)
  have hl : l0.length ≤ 140737488351232 := by omega
  simp only [laws_big.f, Option.bind_some]
  refine evI' (fun _ => Ev.now _) (fun _ => ?_)
  obtain ⟨a, ha, ha0, ha1⟩ := at_ev l0 2 hb8 hl (by omega)
  rw [show ((2 : Nat) : Int) = 2 from rfl] at ha
  simp only [ha, Option.bind_some, impl_TabNew.f]
  obtain ⟨n, hn⟩ : ∃ n : Nat, Int.tmod a 101 = n := ⟨(Int.tmod a 101).toNat, by rw [Int.tmod_eq_emod_of_nonneg ha0]; omega⟩
  have hn101 : n < 101 := by rw [Int.tmod_eq_emod_of_nonneg ha0] at hn; omega
  have hlaw : lawB n = true := List.all_eq_true.1 lawB_all n (List.mem_range.2 hn101)
  have hw1 : wrap64 (100 - (n : Int)) = ((100 - n : Nat) : Int) := by rw [w64 (by omega) (by omega)]; omega
  have hw2 : wrap64 (((100 - n : Nat) : Int) + 1) = ((100 - n + 1 : Nat) : Int) := by rw [w64 (by omega) (by omega)]; omega
  simp only [hn, hw1, hw2, Int.toNat_natCast]
  have hp : (⟨#[47, 102]⟩ : ByteArray).size ≤ 1048576 := by decide
  have s0 := smallT_spec [(⟨1, 2, 0, ([] : List Int), ([] : List S65), ([] : List S71)⟩ : S51)] (by decide)
  unfold lawB at hlaw
  refine Ev.bind (impl_mkFile _ 2 _ (by have := s0.1; omega) s0.2.1 hp s0.2.2 (by omega)) ?_
  generalize makeP [(⟨1, 2, 0, ([] : List Int), ([] : List S65), ([] : List S71)⟩ : S51)] 2 (⟨#[47, 102]⟩ : ByteArray) 1 = m at hlaw ⊢
  simp only [c1, Bool.and_eq_true, decide_eq_true_eq] at hlaw
  obtain ⟨⟨o1, h1⟩, hlaw⟩ := hlaw
  obtain ⟨a1, b1, e1, n1⟩ := okT_spec m o1
  refine evP (by omega) (evP (by omega) (Ev.bind (impl_write m.1 m.2.1 _ n _ (by omega) b1 hp (by rw [List.length_replicate]; omega)) ?_))
  generalize writeP m.1 m.2.1 (⟨#[47, 102]⟩ : ByteArray) n (List.replicate (100 - n) 0) = w at hlaw ⊢
  simp only [c2, Bool.and_eq_true, decide_eq_true_eq] at hlaw
  obtain ⟨⟨⟨⟨o2, h2⟩, h3⟩, h7⟩, hlaw⟩ := hlaw
  obtain ⟨a2, b2, e2, n2⟩ := okT_spec w o2
  refine evP (by omega) (evP (by omega) (Ev.bind (impl_write w.1 w.2.1 _ n _ (by omega) b2 hp (by rw [List.length_replicate]; omega)) (Ev.bind (impl_trunc w.1 w.2.1 _ n (by omega) b2 hp) ?_)))
  generalize writeP w.1 w.2.1 (⟨#[47, 102]⟩ : ByteArray) n (List.replicate (100 - n + 1) 0) = v at h3 ⊢
  generalize truncP w.1 w.2.1 (⟨#[47, 102]⟩ : ByteArray) n = t at hlaw ⊢
  simp only [c3, Bool.and_eq_true, decide_eq_true_eq] at hlaw
  obtain ⟨⟨o3, h4⟩, hlaw⟩ := hlaw
  obtain ⟨a3, b3, e3, n3⟩ := okT_spec t o3
  refine Ev.bind (impl_read t.1 t.2.1 _ 0 1000 (by omega) (fun x hx => (b3 x hx).a) hp) ?_
  generalize readP t.1 (⟨#[47, 102]⟩ : ByteArray) 0 1000 = r at hlaw ⊢
  simp only [c4, Bool.and_eq_true, decide_eq_true_eq] at hlaw
  refine evP h1 (evP h2 (evP h3 (evP h4 (evP hlaw.1 (evP (by have := hlaw.2; omega) ?_)))))
  refine Ev.bind (impl_usage w.1 w.2.1 (by omega) (fun x hx => ⟨(b2 x hx).d, (b2 x hx).t⟩) (by omega)) (evC (Ev.now _) ?_)
  rw [h7]; rfl
end Go.Proofs.YtkcfmbggdkkfeaaGreatDoor.Pure
