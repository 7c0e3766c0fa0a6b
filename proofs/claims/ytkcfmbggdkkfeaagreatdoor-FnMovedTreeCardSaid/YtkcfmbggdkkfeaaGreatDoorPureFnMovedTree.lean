/- FnMovedTree returns true for every code: a directory that is moved takes with it what is within. No condition. -/
import Derived.Test.YtkcfmbggdkkfeaaGreatDoorQ
import Derived.Test.YtkcfmbggdkkfeaaGreatDoorPx0
import Derived.Test.YtkcfmbggdkkfeaaGreatDoorPx17
import Derived.Test.YtkcfmbggdkkfeaaGreatDoorPx3
set_option linter.unusedVariables false
set_option linter.unusedSimpArgs false
namespace Go.Proofs.YtkcfmbggdkkfeaaGreatDoor.Pure
open Go.RowKit Go.Proofs.YtkcfmbggdkkfeaaGreatDoor.P Go.Proofs.YtkcfmbggdkkfeaaGreatDoor.Q Go.Proofs.YtkcfmbggdkkfeaaGreatDoorW.PrintWords Go.Proofs.YtkcfmbggdkkfeaaGreatDoorW.PrintLast Go.Proofs.YtkcfmbggdkkfeaaGreatDoorW.PrintMore

theorem same_self (a : List Int) (ha : a.length ≤ 1048576) : Ev (fun k => laws_sameBytes.f k a a) true := by
  unfold laws_sameBytes.f
  have key := down (n := a.length) (P := fun i => Ev (fun k => laws_sameBytes.l0 k a a (i : Nat)) true) (by
      apply evPre
      simp only [laws_sameBytes.l0]
      exact evN (by omega) (Ev.now _)) (fun i hi h => by
      apply evPre
      simp only [laws_sameBytes.l0]
      rw [nxt i a.length hi (by omega)]
      exact evP (by omega) (evP (by omega) (evP (by omega) (evP trivial h))))
  exact evP rfl (by simpa using key)
def pM (i : Nat) : ByteArray := (⟨#[47, 109]⟩ : ByteArray) ++ ltr i
def pMo (i : Nat) : ByteArray := pM i ++ (⟨#[47, 111, 110, 101]⟩ : ByteArray)
def pSub : ByteArray := ⟨#[47, 100, 105, 114, 47, 115, 117, 98]⟩
def renM (a : Int) (z : List Int) (i : Nat) : List S51 × Int × Int := renU (gT [a, 7] [] z) 6 pDir (pM i) (belowP pDir (pM i))
def M (a : Int) (z : List Int) (i : Nat) : List S51 := (renM a z i).1
def pOkM (i : Nat) : Bool := decide ((ltr i).size = 1) && (splitP (pM i)).2 && decide ((pM i).toList ≠ ([47] : List UInt8)) && decide ((pM i).size = 3) && decide ((pMo i).size ≤ 1000)
set_option maxRecDepth 100000 in
theorem pOkM_all : (List.range 26).all pOkM = true := by decide +kernel
def cM (a : Int) (z : List Int) (i : Nat) : Bool := chk (M a z i) && decide ((renM a z i).2 = (6, 0)) && decide ((walkP (M a z i) pOne).2 = 2)
set_option maxRecDepth 100000 in
theorem cM_all (a : Int) (z : List Int) : (List.range 26).all (cM a z) = true := by kernel_rfl
set_option maxRecDepth 100000 in
theorem M_sh (a : Int) (z : List Int) : (List.range 26).map (fun i => (M a z i).map sh) = List.replicate 26 [(2, []), (2, []), (1, [a, 7]), (1, []), (1, z)] := by kernel_rfl
set_option maxRecDepth 100000 in
theorem M_rd (a : Int) (z : List Int) : (List.range 26).map (fun i => readP (M a z i) (pMo i) 0 10) = List.replicate 26 ([a, 7], 0) := by kernel_rfl
set_option maxRecDepth 100000 in
theorem M_use (a : Int) (z : List Int) : (List.range 26).map (fun i => usage (M a z i)) = List.replicate 26 (usage (gT [a, 7] [] z)) := by kernel_rfl
theorem T_rd (a : Int) (z : List Int) : readP (gT [a, 7] [] z) pOne 0 10 = ([a, 7], 0) := by kernel_rfl
theorem T_in (a : Int) (z : List Int) : renU (gT [a, 7] [] z) 6 pDir pSub (belowP pDir pSub) = (gT [a, 7] [] z, 6, 6) := by kernel_rfl
theorem T_self (a : Int) (z : List Int) : renU (gT [a, 7] [] z) 6 pDir pDir (belowP pDir pDir) = (gT [a, 7] [] z, 6, 6) := by kernel_rfl
theorem T_use (a : Int) (z : List Int) (hz : z.length ≤ 100) : usage (gT [a, 7] [] z) ≤ 4611686018427387904 := by
  have h : usage (gT [a, 7] [] z) = 162 + z.length := by simp [usage, gT, inoUse, attrUse]; omega
  omega
theorem pths_ok : [pDir, pSub].all (fun p => (splitP p).2) = true ∧ [pDir, pDir].all (fun p => (splitP p).2) = true ∧ (splitP pDir).2 = true ∧ pDir.toList ≠ ([47] : List UInt8) ∧ pSub.toList ≠ ([47] : List UInt8) := by decide +kernel
theorem use_fit (T : List S51) (L : List (Int × List Int)) (h : T.map sh = L) (hL : L.all dOk = true) (hs : ∀ x ∈ T, InoT x) : ∀ x ∈ T, x.f3.length ≤ 1048576 ∧ x.f5.length ≤ 1048576 := fun x hx => ⟨(hs x hx).a.d, (hs x hx).a.t⟩
theorem FnMovedTree : laws_FnMovedTree.Pure := by
  intro l0 _ hsz hb
  apply Ev.rounds
  unfold laws_FnMovedTree.f
  have hb8 : ∀ x ∈ l0, 0 ≤ x ∧ x ≤ 255 := fun x hx => wf8 (hb x hx)
  have hl : l0.length ≤ 140737488351232 := by omega
  simp only [laws_big.f, Option.bind_some]
  refine evI' (fun _ => Ev.now _) (fun _ => ?_)
  obtain ⟨a, m, ha, ha0, ha1, hm, hg⟩ := grown_ev l0 hb8 hl
  obtain ⟨b, hb', hb0, hb1⟩ := at_ev l0 4 hb8 hl (by omega)
  rw [show ((4 : Nat) : Int) = 4 from rfl] at hb'
  obtain ⟨i, hi, hi26⟩ := tmod_nat b 26 hb0 (by decide)
  rw [show ((26 : Nat) : Int) = 26 from rfl] at hi
  refine Ev.bind hg ?_
  simp only [hb', Option.bind_some, ltr_num b 26 i hi hi26]
  have hz : (List.replicate m (0 : Int) ++ [101, 110, 100]).length ≤ 100 := by simp; omega
  generalize List.replicate m (0 : Int) ++ [101, 110, 100] = z at *
  have c := List.all_eq_true.1 pOkM_all i (List.mem_range.2 hi26)
  simp only [pOkM, Bool.and_eq_true, decide_eq_true_eq] at c
  obtain ⟨⟨⟨⟨c1, c2⟩, c3⟩, c4⟩, c5⟩ := c
  have d := List.all_eq_true.1 (cM_all a z) i (List.mem_range.2 hi26)
  simp only [cM, Bool.and_eq_true, decide_eq_true_eq] at d
  obtain ⟨⟨d1, d2⟩, d3⟩ := d
  have hd : [a, 7].length ≤ 100 := by simp
  have f0 : Fit (gT [a, 7] [] z) := fit _ _ (show (gT [a, 7] [] z).map sh = [(2, []), (2, []), (1, [a, 7]), (1, []), (1, z)] from rfl) (dOk5 _ _ hd hz).1 (by kernel_rfl)
  have sM := pick (M_sh a z) i hi26
  have f := fit _ _ sM (dOk5 _ _ hd hz).1 d1
  have uM := use_fit _ _ sM (dOk5 _ _ hd hz).1 f.s
  have u0 := use_fit (gT [a, 7] [] z) _ rfl (dOk5 _ _ hd hz).1 f0.s
  have e1 : renU (gT [a, 7] [] z) 6 pDir (pM i) (belowP pDir (pM i)) = (M a z i, 6, 0) := by
    show renM a z i = ((renM a z i).1, 6, 0)
    rw [← d2]
  have e2 := pick (M_rd a z) i hi26
  have e3 := pick (M_use a z) i hi26
  obtain ⟨p1, p2, p3, p4, p5⟩ := pths_ok
  have hc : (⟨#[47, 109]⟩ : ByteArray) ++ strOfNums [((97 + i : Nat) : Int)] = pM i := rfl
  have hs1 : (strOfNums [((97 + i : Nat) : Int)]).size = 1 := c1
  have hpo : pM i ++ (⟨#[47, 111, 110, 101]⟩ : ByteArray) = pMo i := rfl
  rw [hs1]
  simp only [hc, hpo]
  have zD : pDir.size ≤ 1048576 := by decide
  have zO : pOne.size ≤ 1048576 := by decide
  have zS : pSub.size ≤ 1048576 := by decide
  have hu := T_use a z hz
  refine evP (by decide) ?_
  refine Ev.bind (impl_read (gT [a, 7] [] z) 6 pOne 0 10 (Nat.le_trans f0.l (by decide)) (fun x hx => (f0.s x hx).a) zO) ?_
  refine Ev.bind (impl_ren (gT [a, 7] [] z) 6 pDir (pM i) (Nat.lt_of_le_of_lt f0.l (by decide)) f0.s zD (by omega) f0.e (f0.r [pDir, pM i] (by simp [p3, c2])) p4 c3) ?_
  rw [e1]
  generalize M a z i = X at *
  refine evP (by rw [c4]; decide) ?_
  refine Ev.bind (impl_read X 6 (pMo i) 0 10 (Nat.le_trans f.l (by decide)) (fun x hx => (f.s x hx).a) (Nat.le_trans c5 (by decide))) ?_
  refine Ev.bind (impl_walk X 6 pOne (Nat.le_trans f.l (by decide)) (fun x hx => (f.s x hx).a) zO) ?_
  refine Ev.bind (impl_ren (gT [a, 7] [] z) 6 pDir pSub (Nat.lt_of_le_of_lt f0.l (by decide)) f0.s zD zS f0.e (f0.r [pDir, pSub] p1) p4 p5) ?_
  refine Ev.bind (impl_ren (gT [a, 7] [] z) 6 pDir pDir (Nat.lt_of_le_of_lt f0.l (by decide)) f0.s zD zD f0.e (f0.r [pDir, pDir] p2) p4 p4) ?_
  rw [T_rd a z, T_in a z, T_self a z, e2]
  generalize gT [a, 7] [] z = T at *
  refine evP trivial (evP rfl (evP rfl (evP rfl (Ev.bind (same_self [a, 7] (by simp)) (evP rfl (evP rfl (evP d3 (evP rfl (evP rfl ?_)))))))))
  refine Ev.bind (impl_usage X 6 (Nat.le_trans f.l (by decide)) uM (by rw [e3]; exact hu)) ?_
  refine Ev.bind (impl_usage T 6 (Nat.le_trans f0.l (by decide)) u0 hu) (evC (Ev.now _) ?_)
  rw [e3]; simp
end Go.Proofs.YtkcfmbggdkkfeaaGreatDoor.Pure
