/- FnKinds returns true for every code: what is asked of a file as of a directory is refused as that, and the other way. No condition. -/
import Derived.Test.YtkcfmbggdkkfeaaGreatDoorQ
import Derived.Test.YtkcfmbggdkkfeaaGreatDoorPx0
import Derived.Test.YtkcfmbggdkkfeaaGreatDoorPx1
import Derived.Test.YtkcfmbggdkkfeaaGreatDoorPx17
namespace Go.Proofs.YtkcfmbggdkkfeaaGreatDoor.Pure
open Go.RowKit Go.Proofs.YtkcfmbggdkkfeaaGreatDoor.P Go.Proofs.YtkcfmbggdkkfeaaGreatDoor.Q Go.Proofs.YtkcfmbggdkkfeaaGreatDoorW.PrintWords Go.Proofs.YtkcfmbggdkkfeaaGreatDoorW.PrintLast Go.Proofs.YtkcfmbggdkkfeaaGreatDoorW.PrintMore

def sl (i : Nat) : ByteArray := (⟨#[47]⟩ : ByteArray) ++ ltr i
def pT (i : Nat) : ByteArray := (⟨#[47, 116, 111, 112]⟩ : ByteArray) ++ sl i
def pD2 : ByteArray := ⟨#[47, 100, 105, 114, 50]⟩
def pOkT (i : Nat) : Bool := decide ((ltr i).size = 1) && decide ((sl i).size = 2) && decide ((pT i).size ≤ 1000)
set_option maxRecDepth 100000 in
theorem pOkT_all : (List.range 26).all pOkT = true := by decide +kernel
theorem slash_ev (l : List Int) (i : Nat) (hb : ∀ x ∈ l, 0 ≤ x ∧ x ≤ 255) (hl : l.length ≤ 140737488351232) (hi : i ≤ 1000) : ∃ j : Nat, j < 26 ∧ laws_slash.f l (i : Int) = some (sl j) := by
  obtain ⟨b, hb', hb0, hb1⟩ := at_ev l i hb hl hi
  obtain ⟨j, hj, hj26⟩ := tmod_nat b 26 hb0 (by decide)
  rw [show ((26 : Nat) : Int) = 26 from rfl] at hj
  have c := List.all_eq_true.1 pOkT_all j (List.mem_range.2 hj26)
  simp only [pOkT, Bool.and_eq_true, decide_eq_true_eq] at c
  refine ⟨j, hj26, ?_⟩
  unfold laws_slash.f
  simp only [hb', Option.bind_some, ltr_num b 26 j hj hj26]
  have hs1 : (strOfNums [((97 + j : Nat) : Int)]).size = 1 := c.1.1
  rw [hs1, if_pos (by decide)]
  rfl
theorem ready_make (T : List S51) (p : ByteArray) (kd : Int) (hr : readyP T 6 [p] = true) (hp : p.toList ≠ ([47] : List UInt8)) (c : Int) (hc : c ≠ 0) (hs : (spotP T p).2.2 = c) : makeP T 6 p kd = (T, 6, c) := by
  unfold makeP
  rw [if_pos ⟨hr, hp⟩, if_neg (by rw [hs]; exact hc), hs]
def spT (d z : List Int) (i : Nat) : Bool := (splitP (pT i)).2 && decide ((pT i).toList ≠ ([47] : List UInt8)) && decide ((spotP (gT d [] z) (pT i)).2.2 = 3) && decide ((walkP (gT d [] z) (pT i)).2 = 3)
set_option maxRecDepth 100000 in
theorem spT_all (d z : List Int) : (List.range 26).all (spT d z) = true := by kernel_rfl
theorem k_list (d z : List Int) : listP (gT d [] z) pTop = ([], 3) := by kernel_rfl
theorem k_read (d z : List Int) : readP (gT d [] z) pDir 0 1 = ([], 3) := by kernel_rfl
theorem k_unl (d z : List Int) : unlU (gT d [] z) 6 pDir = (gT d [] z, 6, 3) := by kernel_rfl
theorem k_rmd (d z : List Int) : rmdU (gT d [] z) 6 pTop = (gT d [] z, 6, 3) := by kernel_rfl
theorem k_link (d z : List Int) : linkU (gT d [] z) 6 pDir pD2 = (gT d [] z, 6, 3) := by kernel_rfl
theorem k_file (d z : List Int) : fileP (gT d [] z) pDir = (⟨2, 2, 1, [], [⟨⟨#[111, 110, 101]⟩, 3⟩, ⟨⟨#[116, 119, 111]⟩, 4⟩], []⟩, 3) := by kernel_rfl
theorem kp_ok : (splitP pDir).2 = true ∧ (splitP pTop).2 = true ∧ (splitP pD2).2 = true ∧ pDir.toList ≠ ([47] : List UInt8) ∧ pTop.toList ≠ ([47] : List UInt8) ∧ pD2.toList ≠ ([47] : List UInt8) := by decide +kernel
theorem k_write (d z : List Int) (hr : readyP (gT d [] z) 6 [pDir] = true) : writeP (gT d [] z) 6 pDir 0 [1] = (gT d [] z, 6, 3) := by
  unfold writeP
  rw [if_pos ⟨hr, by decide⟩, k_file, if_neg (by decide)]
theorem FnKinds : laws_FnKinds.Pure := by
  intro l0 _ hsz hb
  apply Ev.rounds
  unfold laws_FnKinds.f
  have hb8 : ∀ x ∈ l0, 0 ≤ x ∧ x ≤ 255 := fun x hx => wf8 (hb x hx)
  have hl : l0.length ≤ 140737488351232 := by omega
  simp only [laws_big.f, Option.bind_some]
  refine evI' (fun _ => Ev.now _) (fun _ => ?_)
  obtain ⟨a, m, ha, ha0, ha1, hm, hg⟩ := grown_ev l0 hb8 hl
  obtain ⟨i, hi26, hi⟩ := slash_ev l0 4 hb8 hl (by omega)
  obtain ⟨j, hj26, hj⟩ := slash_ev l0 5 hb8 hl (by omega)
  rw [show ((4 : Nat) : Int) = 4 from rfl] at hi
  rw [show ((5 : Nat) : Int) = 5 from rfl] at hj
  refine Ev.bind hg ?_
  simp only [hi, hj, Option.bind_some]
  have hd : [a, 7].length ≤ 100 := by simp
  have hz : (List.replicate m (0 : Int) ++ [101, 110, 100]).length ≤ 100 := by simp; omega
  generalize [a, 7] = d at *
  generalize List.replicate m (0 : Int) ++ [101, 110, 100] = z at *
  have f : Fit (gT d [] z) := fit _ _ (show (gT d [] z).map sh = [(2, []), (2, []), (1, d), (1, []), (1, z)] from rfl) (dOk5 _ _ hd hz).1 (by kernel_rfl)
  have ci := List.all_eq_true.1 pOkT_all i (List.mem_range.2 hi26)
  have cj := List.all_eq_true.1 pOkT_all j (List.mem_range.2 hj26)
  simp only [pOkT, Bool.and_eq_true, decide_eq_true_eq] at ci cj
  have si := List.all_eq_true.1 (spT_all d z) i (List.mem_range.2 hi26)
  have sj := List.all_eq_true.1 (spT_all d z) j (List.mem_range.2 hj26)
  simp only [spT, Bool.and_eq_true, decide_eq_true_eq] at si sj
  have e1 : (⟨#[47, 116, 111, 112]⟩ : ByteArray) ++ sl i = pT i := rfl
  have e2 : (⟨#[47, 116, 111, 112]⟩ : ByteArray) ++ sl j = pT j := rfl
  simp only [e1, e2, ci.1.2, cj.1.2]
  obtain ⟨p1, p2, p3, p4, p5, p6⟩ := kp_ok
  have hlen : (gT d [] z).length ≤ 1048576 := Nat.le_trans f.l (by decide)
  have hlt : (gT d [] z).length < 1048576 := Nat.lt_of_le_of_lt f.l (by decide)
  have hA : ∀ x ∈ gT d [] z, InoA x := fun x hx => (f.s x hx).a
  have zD : pDir.size ≤ 1048576 := by decide
  have zT : pTop.size ≤ 1048576 := by decide
  have zE : pD2.size ≤ 1048576 := by decide
  have w1 := k_write d z (f.r [pDir] (by simp [p1]))
  have m1 := ready_make (gT d [] z) (pT i) 1 (f.r [pT i] (by simp [si.1.1.1])) si.1.1.2 3 (by decide) si.1.2
  have fl : -1048576 ≤ (fileP (gT d [] z) pDir).1.f2 ∧ (fileP (gT d [] z) pDir).1.f2 ≤ 1048576 := by rw [k_file]; decide
  refine Ev.bind (impl_list (gT d [] z) 6 pTop hlen hA zT) ?_
  refine Ev.bind (impl_read (gT d [] z) 6 pDir 0 1 hlen hA zD) ?_
  refine Ev.bind (impl_unl (gT d [] z) 6 pDir hlt f.s zD fl (f.r [pDir] (by simp [p1])) p4) ?_
  refine Ev.bind (impl_rmd (gT d [] z) 6 pTop hlt f.s zT (f.r [pTop] (by simp [p2])) p5) ?_
  refine evP (by decide) (Ev.bind (impl_mkFile (gT d [] z) 6 (pT i) hlt f.s (Nat.le_trans ci.2 (by decide)) f.e (by decide)) ?_)
  refine Ev.bind (impl_write (gT d [] z) 6 pDir 0 [1] hlen f.s zD (by simp)) ?_
  refine Ev.bind (impl_link (gT d [] z) 6 pDir pD2 hlt f.s zD zE f.e fl (f.r [pDir, pD2] (by simp [p1, p3])) p6) ?_
  refine evP (by decide) (Ev.bind (impl_walk (gT d [] z) 6 (pT j) hlen hA (Nat.le_trans cj.2 (by decide))) ?_)
  rw [k_list, k_read, k_unl, k_rmd, k_link, w1, m1]
  refine evP trivial (evP rfl (evP rfl (evP rfl (evP rfl (evP rfl (evP rfl (evP rfl (evC (Ev.now _) ?_))))))))
  rw [sj.2]; rfl
end Go.Proofs.YtkcfmbggdkkfeaaGreatDoor.Pure
