/- FnLinkCount returns true for every code: a file stays while a name leads to it, and goes with its last. No condition. -/
import Derived.Test.YtkcfmbggdkkfeaaGreatDoorQ
import Derived.Test.YtkcfmbggdkkfeaaGreatDoorPx0
import Derived.Test.YtkcfmbggdkkfeaaGreatDoorPx16
import Derived.Test.YtkcfmbggdkkfeaaGreatDoorPx3
import Derived.Test.YtkcfmbggdkkfeaaGreatDoorPx9
set_option linter.unusedVariables false
set_option linter.unusedSimpArgs false
namespace Go.Proofs.YtkcfmbggdkkfeaaGreatDoor.Pure
open Go.RowKit Go.Proofs.YtkcfmbggdkkfeaaGreatDoor.P Go.Proofs.YtkcfmbggdkkfeaaGreatDoor.Q Go.Proofs.YtkcfmbggdkkfeaaGreatDoorW.PrintWords Go.Proofs.YtkcfmbggdkkfeaaGreatDoorW.PrintLast Go.Proofs.YtkcfmbggdkkfeaaGreatDoorW.PrintMore

def pL1 : ByteArray := ⟨#[47, 108, 49]⟩
def pL2 : ByteArray := ⟨#[47, 108, 50]⟩
def pL3 : ByteArray := ⟨#[47, 100, 105, 114, 47, 108, 51]⟩
def pths : List ByteArray := [pTop, pL1, pL2, pL3]
def pth (i : Nat) : ByteArray := pths.getD i ByteArray.empty
/-- The tables: with i more names; with i names taken, from the name s on. -/
def H (d z : List Int) : Nat → List S51
  | 0 => gT d [] z
  | i + 1 => (linkU (H d z i) 6 (pth i) (pth (i + 1))).1
def U (d z : List Int) (s : Nat) : Nat → List S51
  | 0 => H d z 3
  | i + 1 => (unlU (U d z s i) 6 (pth ((s + i) % 4))).1
def cH (d z : List Int) (i : Nat) : Bool := chk (H d z i) && decide ((linkU (H d z i) 6 (pth i) (pth (i + 1))).2 = (6, 0)) && decide ((fileP (H d z i) (pth i)).1.f2 = 1 + (i : Int))
def cU (d z : List Int) (s i : Nat) : Bool := chk (U d z s i) && decide ((unlU (U d z s i) 6 (pth ((s + i) % 4))).2 = (6, 0)) && decide ((fileP (U d z s i) (pth ((s + i) % 4))).1.f2 = 4 - (i : Int)) && decide ((statP (U d z s i) (pth ((s + i) % 4))).2 = 0) && decide ((statP (U d z s i) (pth ((s + i) % 4))).1.f2 = 4 - (i : Int)) && decide ((U d z s i).length = 5) && chk (U d z s (i + 1))
def pOk (i : Nat) : Bool := (splitP (pth i)).2 && decide ((pth i).toList ≠ ([47] : List UInt8)) && decide ((pth i).size ≤ 1000)
set_option maxRecDepth 100000 in
theorem pOk_all : (List.range 4).all pOk = true := by decide +kernel
set_option maxRecDepth 100000 in
theorem cH_all (d z : List Int) : ((List.range 3).all (cH d z)) = true := by kernel_rfl
set_option maxRecDepth 100000 in
theorem cU_all (d z : List Int) : ((List.range 4).all fun s => (List.range 4).all (cU d z s)) = true := by kernel_rfl
set_option maxRecDepth 100000 in
theorem H_sh (d z : List Int) (i : Nat) (hi : i < 4) : (H d z i).map sh = [(2, []), (2, []), (1, d), (1, []), (1, z)] := by
  rcases (by omega : i = 0 ∨ i = 1 ∨ i = 2 ∨ i = 3) with rfl | rfl | rfl | rfl <;> kernel_rfl
set_option maxRecDepth 100000 in
theorem U_sh (d z : List Int) (s i : Nat) (hs : s < 4) (hi : i < 4) : (U d z s i).map sh = [(2, []), (2, []), (1, d), (1, []), (1, z)] := by
  rcases (by omega : s = 0 ∨ s = 1 ∨ s = 2 ∨ s = 3) with rfl | rfl | rfl | rfl <;> rcases (by omega : i = 0 ∨ i = 1 ∨ i = 2 ∨ i = 3) with rfl | rfl | rfl | rfl <;> kernel_rfl
set_option maxRecDepth 100000 in
theorem U_last (d z : List Int) (s : Nat) (hs : s < 4) : (U d z s 4).map sh = [(2, []), (2, []), (1, d), (1, [])] := by
  rcases (by omega : s = 0 ∨ s = 1 ∨ s = 2 ∨ s = 3) with rfl | rfl | rfl | rfl <;> kernel_rfl
theorem tm4 (n : Nat) : Int.tmod ((n : Nat) : Int) 4 = ((n % 4 : Nat) : Int) := by rw [Int.tmod_eq_emod_of_nonneg (by omega)]; omega
theorem pth_rd (i : Nat) : rdOf ByteArray.empty [pTop, pL1, pL2, pL3] (i : Int) = pth i := rfl
theorem pth_ok (i : Nat) (hi : i < 4) : (splitP (pth i)).2 = true ∧ (pth i).toList ≠ ([47] : List UInt8) ∧ (pth i).size ≤ 1000 := by
  have h := List.all_eq_true.1 pOk_all i (List.mem_range.2 hi)
  simp only [pOk, Bool.and_eq_true, decide_eq_true_eq] at h
  exact ⟨h.1.1, h.1.2, h.2⟩
theorem pths_len : ([pTop, pL1, pL2, pL3].length : Int) = 4 := rfl
theorem loop1 (d z : List Int) (s : Nat) (hs : s < 4) (hd : d.length ≤ 100) (hz : z.length ≤ 100) : Ev (fun k => laws_FnLinkCount.l1 k true [pTop, pL1, pL2, pL3] 5 (s : Int) 0 (U d z s 0) 6) true := by
  have key := down (n := 4) (P := fun i => Ev (fun k => laws_FnLinkCount.l1 k true [pTop, pL1, pL2, pL3] 5 (s : Int) (i : Nat) (U d z s i) 6) true) (by
      apply evPre
      simp only [laws_FnLinkCount.l1]
      have hl : (U d z s 4).length = 4 := by have := congrArg List.length (U_last d z s hs); simpa using this
      refine evN (by decide) (evP trivial (evC (Ev.now _) ?_))
      rw [hl, w64 (by decide) (by decide)]; rfl) (fun i hi h => by
      have c := List.all_eq_true.1 (List.all_eq_true.1 (cU_all d z) s (List.mem_range.2 hs)) i (List.mem_range.2 hi)
      simp only [cU, Bool.and_eq_true, decide_eq_true_eq] at c
      obtain ⟨⟨⟨⟨⟨⟨c1, c2⟩, c3⟩, c4⟩, c5⟩, c6⟩, c7⟩ := c
      have f := fit _ _ (U_sh d z s i hs hi) (dOk5 d z hd hz).1 c1
      have hm : (s + i) % 4 < 4 := Nat.mod_lt _ (by decide)
      obtain ⟨p1, p2, p3⟩ := pth_ok ((s + i) % 4) hm
      have hw : wrap64 ((s : Int) + (i : Int)) = ((s + i : Nat) : Int) := by rw [w64 (by omega) (by omega)]; omega
      have hw2 : wrap64 (4 - (i : Int)) = 4 - (i : Int) := w64 (by omega) (by omega)
      have hu : unlU (U d z s i) 6 (pth ((s + i) % 4)) = (U d z s (i + 1), 6, 0) := by
        show _ = ((unlU (U d z s i) 6 (pth ((s + i) % 4))).1, 6, 0)
        rw [← c2]
      have f2 : Fit (U d z s (i + 1)) := by
        by_cases hi3 : i + 1 < 4
        · exact fit _ _ (U_sh d z s (i + 1) hs hi3) (dOk5 d z hd hz).1 c7
        · obtain rfl : i = 3 := by omega
          exact fit _ _ (U_last d z s hs) (dOk5 d z hd hz).2 c7
      have hlen : i < 3 → (U d z s (i + 1)).length = 5 := by
        intro h3
        have := congrArg List.length (U_sh d z s (i + 1) hs (by omega)); simpa using this
      apply evPre
      simp only [laws_FnLinkCount.l1, hw, tm4, hw2, pth_rd, pths_len]
      generalize pth ((s + i) % 4) = p at *
      refine evP (by omega) (evP (by omega) (evP (by omega) ?_))
      refine Ev.bind (impl_stat (U d z s i) 6 p (Nat.le_trans f.l (by decide)) (fun x hx => (f.s x hx).a) (Nat.le_trans p3 (by decide))) ?_
      refine Ev.bind (impl_unl (U d z s i) 6 p (Nat.lt_of_le_of_lt f.l (by decide)) f.s (Nat.le_trans p3 (by decide)) (by rw [c3]; omega) (f.r [p] (by simp [p1])) p2) ?_
      rw [hu]
      have ht : Ev (fun k => impl_TreeOk.f k (U d z s (i + 1)) 6) true := evC (impl_treeOk (U d z s (i + 1)) 6 (Nat.le_trans f2.l (by decide)) f2.s) f2.t
      rw [nxt i 4 hi (by omega)]
      refine evP c4 (evP rfl (evP c5 ?_))
      by_cases h3 : i < 3
      · refine evP (by omega) (evP (by rw [hlen h3]; rfl) (Ev.bind ht (evP rfl h)))
      · exact evN (by omega) (Ev.bind ht (evP rfl h)))
  simpa using key
theorem FnLinkCount : laws_FnLinkCount.Pure := by
  intro l0 _ hsz hb
  apply Ev.rounds
  unfold laws_FnLinkCount.f
  have hb8 : ∀ x ∈ l0, 0 ≤ x ∧ x ≤ 255 := fun x hx => wf8 (hb x hx)
  have hl : l0.length ≤ 140737488351232 := by omega
  simp only [laws_big.f, Option.bind_some]
  refine evI' (fun _ => Ev.now _) (fun _ => ?_)
  obtain ⟨a, m, ha, ha0, ha1, hm, hg⟩ := grown_ev l0 hb8 hl
  obtain ⟨b, hb', hb0, hb1⟩ := at_ev l0 4 hb8 hl (by omega)
  rw [show ((4 : Nat) : Int) = 4 from rfl] at hb'
  obtain ⟨s, hs⟩ : ∃ s : Nat, Int.tmod b 4 = s := ⟨(Int.tmod b 4).toNat, by rw [Int.tmod_eq_emod_of_nonneg hb0]; omega⟩
  have hs4 : s < 4 := by rw [Int.tmod_eq_emod_of_nonneg hb0] at hs; omega
  refine Ev.bind hg ?_
  have hd : [a, 7].length ≤ 100 := by simp
  have hz : (List.replicate m (0 : Int) ++ [101, 110, 100]).length ≤ 100 := by simp; omega
  generalize [a, 7] = d at *
  generalize List.replicate m (0 : Int) ++ [101, 110, 100] = z at *
  have key := down (n := 3) (P := fun i => Ev (fun k => laws_FnLinkCount.l0 k l0 true [pTop, pL1, pL2, pL3] ((i + 1 : Nat) : Int) (H d z i) 6) true) (by
      apply evPre
      simp only [laws_FnLinkCount.l0, hb', Option.bind_some, hs]
      refine evN (by decide) ?_
      have hlen : (H d z 3).length = 5 := by have := congrArg List.length (H_sh d z 3 (by omega)); simpa using this
      rw [hlen]
      exact loop1 d z s hs4 hd hz) (fun i hi h => by
      have c := List.all_eq_true.1 (cH_all d z) i (List.mem_range.2 hi)
      simp only [cH, Bool.and_eq_true, decide_eq_true_eq] at c
      obtain ⟨⟨c1, c2⟩, c3⟩ := c
      have f := fit _ _ (H_sh d z i (by omega)) (dOk5 d z hd hz).1 c1
      obtain ⟨p1, p2, p3⟩ := pth_ok i (by omega)
      obtain ⟨q1, q2, q3⟩ := pth_ok (i + 1) (by omega)
      have hw : wrap64 (((i + 1 : Nat) : Int) - 1) = (i : Int) := by rw [w64 (by omega) (by omega)]; omega
      have hk : linkU (H d z i) 6 (pth i) (pth (i + 1)) = (H d z (i + 1), 6, 0) := by
        show _ = ((linkU (H d z i) 6 (pth i) (pth (i + 1))).1, 6, 0)
        rw [← c2]
      apply evPre
      simp only [laws_FnLinkCount.l0, hw, pth_rd, pths_len]
      rw [nxt (i + 1) 4 (by omega) (by omega)]
      generalize pth i = p at *
      generalize pth (i + 1) = q at *
      refine evP (by omega) (evP (by omega) (evP (by omega) (evP (by omega) (evP (by omega) ?_))))
      refine Ev.bind (impl_link (H d z i) 6 p q (Nat.lt_of_le_of_lt f.l (by decide)) f.s (Nat.le_trans p3 (by decide)) (Nat.le_trans q3 (by decide)) f.e (by rw [c3]; omega) (f.r [p, q] (by simp [p1, q1])) q2) ?_
      rw [hk]
      exact evP rfl h)
  exact key
end Go.Proofs.YtkcfmbggdkkfeaaGreatDoor.Pure
