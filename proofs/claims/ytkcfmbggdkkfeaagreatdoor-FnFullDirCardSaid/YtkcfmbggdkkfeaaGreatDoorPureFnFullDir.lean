/- FnFullDir returns true for every code: a directory takes so many entries, and not one more; behind one unlinked it does. No condition. -/
import Derived.Test.YtkcfmbggdkkfeaaGreatDoorQ
import Derived.Test.YtkcfmbggdkkfeaaGreatDoorPx0
import Derived.Test.YtkcfmbggdkkfeaaGreatDoorPx18
import Derived.Test.YtkcfmbggdkkfeaaGreatDoorPx3
set_option linter.unusedVariables false
set_option linter.unusedSimpArgs false
namespace Go.Proofs.YtkcfmbggdkkfeaaGreatDoor.Pure
open Go.RowKit Go.Proofs.YtkcfmbggdkkfeaaGreatDoor.P Go.Proofs.YtkcfmbggdkkfeaaGreatDoor.Q Go.Proofs.YtkcfmbggdkkfeaaGreatDoorW.PrintWords Go.Proofs.YtkcfmbggdkkfeaaGreatDoorW.PrintLast Go.Proofs.YtkcfmbggdkkfeaaGreatDoorW.PrintMore

def pd : ByteArray := ⟨#[47, 100]⟩
def pdi (i : Nat) : ByteArray := (⟨#[47, 100, 47]⟩ : ByteArray) ++ ltr i
def pdz : ByteArray := ⟨#[47, 100, 47, 122]⟩
def pda : ByteArray := ⟨#[47, 100, 47, 97]⟩
/-- The tables and their next numbers: behind the directory and i files. -/
def D : Nat → List S51 × Int × Int
  | 0 => makeP g0 2 pd 2
  | i + 1 => makeP (D i).1 (D i).2.1 (pdi i) 1
def okM (m : List S51 × Int × Int) : Bool := okT m && decide (m.2.2 = 0)
def okL : Bool := (List.range 11).all (fun i => okM (D i)) && (List.range 10).all (fun i => decide ((ltr i).size = 1) && decide ((pdi i).size ≤ 1000))
set_option maxRecDepth 100000 in
theorem okL_all : okT (g0, 2, 0) = true ∧ okL = true := by decide +kernel
def un (i : Nat) : List S51 × Int × Int := unlU (D 10).1 (D 10).2.1 (pdi i)
def cF : Bool := decide ((makeP (D 10).1 (D 10).2.1 pdz 1).2.2 = 5) && decide ((linkU (D 10).1 (D 10).2.1 pda pdz).2.2 = 5) && decide ((renU (D 10).1 (D 10).2.1 pda pdz (belowP pda pdz)).2.2 = 0)
  && readyP (D 10).1 (D 10).2.1 [pda, pdz] && (decide (pdz.toList ≠ ([47] : List UInt8)) && decide (pda.toList ≠ ([47] : List UInt8))) && decide ((fileP (D 10).1 pda).1.f2 = 1)
def cU (i : Nat) : Bool := okM (un i) && decide ((makeP (un i).1 (un i).2.1 pdz 1).2.2 = 0) && readyP (D 10).1 (D 10).2.1 [pdi i] && decide ((pdi i).toList ≠ ([47] : List UInt8)) && decide ((fileP (D 10).1 (pdi i)).1.f2 = 1)
set_option maxRecDepth 100000 in
theorem cF_all : cF = true := by decide +kernel
set_option maxRecDepth 100000 in
theorem cU_all : (List.range 10).all cU = true := by decide +kernel
theorem FnFullDir : laws_FnFullDir.Pure := by
  intro l0 _ hsz hb
  apply Ev.rounds
  unfold laws_FnFullDir.f
  have hb8 : ∀ x ∈ l0, 0 ≤ x ∧ x ≤ 255 := fun x hx => wf8 (hb x hx)
  have hl : l0.length ≤ 140737488351232 := by omega
  simp only [laws_big.f, Option.bind_some]
  refine evI' (fun _ => Ev.now _) (fun _ => ?_)
  simp only [impl_TabNew.f, Option.bind_some]
  obtain ⟨s0, okl⟩ := okL_all
  simp only [okL, Bool.and_eq_true, List.all_eq_true, List.mem_range, decide_eq_true_eq] at okl
  obtain ⟨okD, okp⟩ := okl
  obtain ⟨b0, d0, e0, n0⟩ := okT_spec _ s0
  refine Ev.bind (a := D 0) (impl_mkDir g0 2 pd (Nat.lt_of_le_of_lt b0 (by decide)) d0 (by decide) e0 n0) ?_
  have z0 : (D 0).2.2 = 0 := by
    have := okD 0 (by decide)
    simp only [okM, Bool.and_eq_true, decide_eq_true_eq] at this
    exact this.2
  rw [z0]
  have key := down (n := 10) (P := fun i => Ev (fun k => laws_FnFullDir.l0 k l0 0 (i : Nat) (D i).1 (D i).2.1) true) (by
      obtain ⟨b, hb', hb0, hb1⟩ := at_ev l0 2 hb8 hl (by omega)
      rw [show ((2 : Nat) : Int) = 2 from rfl] at hb'
      obtain ⟨i, hi, hi10⟩ := tmod_nat b 10 hb0 (by decide)
      rw [show ((10 : Nat) : Int) = 10 from rfl] at hi
      have q := okD 10 (by decide)
      simp only [okM, Bool.and_eq_true, decide_eq_true_eq] at q
      obtain ⟨b1, d1, e1, n1⟩ := okT_spec _ q.1
      have cf := cF_all
      simp only [cF, Bool.and_eq_true, decide_eq_true_eq] at cf
      obtain ⟨⟨⟨⟨⟨f1, f2⟩, f3⟩, f4⟩, f5, f6⟩, f7⟩ := cf
      have cu := List.all_eq_true.1 cU_all i (List.mem_range.2 hi10)
      simp only [cU, okM, Bool.and_eq_true, decide_eq_true_eq] at cu
      obtain ⟨⟨⟨⟨⟨u1, u2⟩, u3⟩, u4⟩, u5⟩, u6⟩ := cu
      obtain ⟨b2, d2, e2, n2⟩ := okT_spec _ u1
      have hp := okp i hi10
      have hs1 : (strOfNums [((97 + i : Nat) : Int)]).size = 1 := hp.1
      have hc : (⟨#[47, 100, 47]⟩ : ByteArray) ++ strOfNums [((97 + i : Nat) : Int)] = pdi i := rfl
      apply evPre
      simp only [laws_FnFullDir.l0, hb', Option.bind_some, ltr_num b 10 i hi (by omega), hs1, hc]
      have un_eq : unlU (D 10).1 (D 10).2.1 (pdi i) = un i := rfl
      generalize D 10 = T at *
      generalize pdi i = p at *
      have hT : T.1.length < 1048576 := Nat.lt_of_le_of_lt b1 (by decide)
      have zz : pdz.size ≤ 1048576 := by decide
      have za : pda.size ≤ 1048576 := by decide
      refine evN (by decide) ?_
      refine Ev.bind (impl_mkFile T.1 T.2.1 pdz hT d1 zz e1 n1) ?_
      refine Ev.bind (impl_link T.1 T.2.1 pda pdz hT d1 za zz e1 (by rw [f7]; decide) f4 f5) ?_
      refine Ev.bind (impl_ren T.1 T.2.1 pda pdz hT d1 za zz e1 f4 f6 f5) ?_
      refine evP (by decide) ?_
      refine Ev.bind (impl_unl T.1 T.2.1 p hT d1 (Nat.le_trans hp.2 (by decide)) (by rw [u6]; decide) u4 u5) ?_
      rw [un_eq]
      refine Ev.bind (impl_mkFile (un i).1 (un i).2.1 pdz (Nat.lt_of_le_of_lt b2 (by decide)) d2 zz e2 n2) ?_
      refine evP trivial (evP f1 (evP f2 (evP f3 (evP u2 (evC (Ev.now _) (by rw [u3]; rfl)))))))
      (fun i hi h => by
      have q := okD i (by omega)
      simp only [okM, Bool.and_eq_true, decide_eq_true_eq] at q
      obtain ⟨b1, d1, e1, n1⟩ := okT_spec _ q.1
      have q2 := okD (i + 1) (by omega)
      simp only [okM, Bool.and_eq_true, decide_eq_true_eq] at q2
      have hp := okp i hi
      have hs1 : (strOfNums [((97 + i : Nat) : Int)]).size = 1 := hp.1
      have hc : (⟨#[47, 100, 47]⟩ : ByteArray) ++ strOfNums [((97 + i : Nat) : Int)] = pdi i := rfl
      have hw : [(wrap64 (97 + (i : Int))) % 256] = [((97 + i : Nat) : Int)] := by rw [w64 (by omega) (by omega)]; congr 1; omega
      have hD : makeP (D i).1 (D i).2.1 (pdi i) 1 = D (i + 1) := rfl
      apply evPre
      simp only [laws_FnFullDir.l0, Option.bind_some, hw, hs1, hc]
      rw [nxt i 10 hi (by omega)]
      refine evP (by omega) (evP (by decide) ?_)
      refine Ev.bind (impl_mkFile (D i).1 (D i).2.1 (pdi i) (Nat.lt_of_le_of_lt b1 (by decide)) d1 (Nat.le_trans hp.2 (by decide)) e1 n1) ?_
      rw [hD]
      exact evP q2.2 h)
  simpa using key
end Go.Proofs.YtkcfmbggdkkfeaaGreatDoor.Pure
