/- TabOk: what the program's and the reference's functions answer, in plain words. No condition. -/
import Derived.Test.YtkknehgaebhbeaaQk
import Derived.Test.YtkknehgaebhbeaaPx0
import Derived.Test.YtkknehgaebhbeaaPx5
import Derived.Test.YtkknehgaebhbeaaPx6
import Derived.Test.YtkknehgaebhbeaaPx7
namespace Go.Proofs.Ytkknehgaebhbeaa.Q
open Go.RowKit Go.Proofs.Ytkknehgaebhbeaa.P Go.Proofs.YtkknehgaebhbeaaW.PrintWords Go.Proofs.YtkknehgaebhbeaaW.PrintLast Go.Proofs.YtkknehgaebhbeaaW.PrintMore

def inOk (x : S45) : Bool := inodeOk x.f0 x.f1 x.f2 x.f3 x.f4 x.f5
def above (p : Option Int) (n : Int) : Bool := match p with | none => true | some q => decide (q < n)
def tabR (nx : Int) : Option Int → List S45 → Bool
  | _, [] => true
  | p, x :: l => inOk x && decide (x.f0 < nx) && above p x.f0 && tabR nx (some x.f0) l
def tabPrev (l : List S45) (i : Nat) : Option Int := if i = 0 then none else some (rd_T45 l ((i : Int) - 1)).f0
theorem tabPrev_next (l : List S45) (i : Nat) (h : i < l.length) : tabPrev l (i + 1) = some l[i].f0 := by
  unfold tabPrev
  rw [if_neg (by omega), show (((i + 1 : Nat) : Int) - 1) = (i : Int) from by omega, rd_T45, getD_at l _ i h]
/-- What is told of an inode of a table. -/
structure InoT (x : S45) : Prop where
  d : x.f3.length ≤ 1048576
  e : x.f4.length ≤ 1048576
  t : x.f5.length ≤ 1048576
  en : ∀ y ∈ x.f4, y.f0.size ≤ 1048576
  tn : ∀ y ∈ x.f5, y.f0.size ≤ 1048576
theorem inOk_pos (x : S45) (h : inOk x = true) : 1 ≤ x.f0 := by
  unfold inOk inodeOk at h
  simp only [Bool.and_eq_true, decide_eq_true_eq] at h
  omega
/-- In a right table behind a number that is at least 1, no inode has the number 1. -/
theorem place_none (nx : Int) (l : List S45) : ∀ (q : Int) (i : Nat), 1 ≤ q → tabR nx (some q) l = true → placeR 1 l i = -1 := by
  induction l with
  | nil => intros; rfl
  | cons x l ih =>
    intro q i hq h
    simp only [tabR, above, Bool.and_eq_true, decide_eq_true_eq] at h
    rw [placeR, if_neg (by omega)]
    exact ih x.f0 (i + 1) (by omega) h.2
theorem place_head (nx : Int) (x : S45) (l : List S45) (h : tabR nx none (x :: l) = true) : placeR 1 (x :: l) 0 = if x.f0 = 1 then 0 else -1 := by
  simp only [tabR, Bool.and_eq_true, decide_eq_true_eq] at h
  rw [placeR]
  split
  · rfl
  · exact place_none nx l x.f0 1 (inOk_pos x h.1.1.1) h.2

def headOk (l : List S45) : Bool := decide ((rd_T45 l 0).f0 = 1) && ((rd_T45 l 0).f1 == 2)
theorem spec_tab_loop (l : List S45) (nx : Int) (hl : l.length ≤ 1048576) (hs : ∀ x ∈ l, InoT x) (hp : 0 < l.length) :
    Ev (fun k => spec_TabOk.l0 k 0 l nx) (tabR nx none l && headOk l) := by
  have key : Ev (fun k => spec_TabOk.l0 k (0 : Nat) l nx) (tabR nx (tabPrev l 0) (l.drop 0) && headOk l) := by
    refine down (n := l.length) (P := fun i => Ev (fun k => spec_TabOk.l0 k (i : Nat) l nx) (tabR nx (tabPrev l i) (l.drop i) && headOk l)) ?_ (fun i hi h => ?_)
    · rw [List.drop_length]
      apply evPre
      simp only [spec_TabOk.l0, tabR]
      refine evN (by omega) (evP (by omega) ?_)
      by_cases c : (rd_T45 l 0).f0 = 1
      · exact evP c (evC (Ev.now _) (by simp [headOk, c]))
      · exact evN c (evC (Ev.now _) (by simp [headOk, c]))
    · rw [List.drop_eq_getElem_cons hi]
      rw [tabPrev_next l i hi] at h
      have hT := hs l[i] (List.getElem_mem hi)
      have ho := spec_inodeOk l[i].f0 l[i].f1 l[i].f2 l[i].f3 l[i].f4 l[i].f5 hT.e hT.t hT.en hT.tn
      have hrd : rd_T45 l (i : Int) = l[i] := getD_at l _ i hi
      apply evPre
      simp only [spec_TabOk.l0, hrd]
      rw [nxt i l.length hi (by omega)]
      refine evP (by omega) (evP (by omega) (Ev.bind ho ?_))
      by_cases c1 : inOk l[i] = true
      · refine evP c1 ?_
        by_cases c2 : l[i].f0 < nx
        · refine evN (by omega) ?_
          by_cases c3 : i = 0
          · subst c3
            refine evN (by omega) (evC h ?_)
            simp [tabR, c1, c2, tabPrev, above]
          · rw [w64 (n := (i : Int) - 1) (by omega) (by omega)]
            refine evP (by omega) (evP (by omega) (evP (by omega) ?_))
            have hu : above (tabPrev l i) l[i].f0 = decide ((rd_T45 l ((i : Int) - 1)).f0 < l[i].f0) := by unfold tabPrev; rw [if_neg c3]; rfl
            by_cases c4 : (rd_T45 l ((i : Int) - 1)).f0 < l[i].f0
            · refine evN (by omega) (evC h ?_)
              simp [tabR, c1, c2, hu, c4]
            · refine evP (by omega) (evC (Ev.now _) ?_)
              simp [tabR, hu, c4]
        · refine evP (by omega) (evC (Ev.now _) ?_)
          simp [tabR, c2]
      · refine evN c1 (evC (Ev.now _) ?_)
        simp [tabR, c1]
  simpa [tabPrev] using key
theorem impl_tab_loop (l : List S45) (nx : Int) (hl : l.length ≤ 1048576) (hs : ∀ x ∈ l, InoT x) (E : Bool) (hE : Ev (fun k => (impl_InodeAt.f k l nx 1).bind fun bt => (if bt.2.2.2.2.2.2 = true then (some (bt.2.1 == 2)) else (some false))) E) :
    Ev (fun k => impl_TabOk.l0 k l (l.length : Int) 0 l nx) (tabR nx none l && E) := by
  have key : Ev (fun k => impl_TabOk.l0 k l (l.length : Int) (0 : Nat) l nx) (tabR nx (tabPrev l 0) (l.drop 0) && E) := by
    refine down (n := l.length) (P := fun i => Ev (fun k => impl_TabOk.l0 k l (l.length : Int) (i : Nat) l nx) (tabR nx (tabPrev l i) (l.drop i) && E)) ?_ (fun i hi h => ?_)
    · rw [List.drop_length]
      apply evPre
      simp only [impl_TabOk.l0, tabR]
      exact evN (by omega) (evC hE (by simp))
    · rw [List.drop_eq_getElem_cons hi]
      rw [tabPrev_next l i hi] at h
      have hT := hs l[i] (List.getElem_mem hi)
      have ho := impl_inodeOk l[i].f0 l[i].f1 l[i].f2 l[i].f3 l[i].f4 l[i].f5 hT.e hT.t hT.en hT.tn
      have hrd : rd_T45 l (i : Int) = l[i] := getD_at l _ i hi
      apply evPre
      simp only [impl_TabOk.l0, hrd]
      rw [nxt i l.length hi (by omega)]
      refine evP (by omega) (evP (by omega) (evP (by omega) (Ev.bind ho ?_)))
      by_cases c1 : inOk l[i] = true
      · refine evP c1 ?_
        by_cases c2 : l[i].f0 < nx
        · refine evN (by omega) ?_
          by_cases c3 : i = 0
          · subst c3
            refine evN (by omega) (evC h ?_)
            simp [tabR, c1, c2, tabPrev, above]
          · rw [w64 (n := (i : Int) - 1) (by omega) (by omega)]
            refine evP (by omega) (evP (by omega) (evP (by omega) ?_))
            have hu : above (tabPrev l i) l[i].f0 = decide ((rd_T45 l ((i : Int) - 1)).f0 < l[i].f0) := by unfold tabPrev; rw [if_neg c3]; rfl
            by_cases c4 : (rd_T45 l ((i : Int) - 1)).f0 < l[i].f0
            · refine evN (by omega) (evC h ?_)
              simp [tabR, c1, c2, hu, c4]
            · refine evP (by omega) (evC (Ev.now _) ?_)
              simp [tabR, hu, c4]
        · refine evP (by omega) (evC (Ev.now _) ?_)
          simp [tabR, c2]
      · refine evN c1 (evC (Ev.now _) ?_)
        simp [tabR, c1]
  simpa [tabPrev] using key
theorem copy_inode (x : S45) (h : InoT x) : impl_copyInode.f x.f0 x.f1 x.f2 x.f3 x.f4 x.f5 = some (x.f0, x.f1, x.f2, x.f3, x.f4, x.f5) := by
  have hd := h.d; have he := h.e; have ht := h.t
  have a : slices_Clone_byte_byte.f x.f3 = some x.f3 := by unfold slices_Clone_byte_byte.f; simp; omega
  have b : slices_Clone_Ent.f x.f4 = some x.f4 := by unfold slices_Clone_Ent.f; simp; omega
  have c : slices_Clone_Attr.f x.f5 = some x.f5 := by unfold slices_Clone_Attr.f; simp; omega
  unfold impl_copyInode.f
  rw [a, Option.bind_some, b, Option.bind_some, c, Option.bind_some]
def tabOk (l : List S45) (nx : Int) : Bool := decide (1 ≤ l.length ∧ l.length ≤ 30) && decide (2 ≤ nx ∧ nx ≤ 1000) && (tabR nx none l && headOk l)
theorem placeR_range (ino : Int) (l : List S45) : ∀ i : Nat, placeR ino l i = -1 ∨ ((i : Int) ≤ placeR ino l i ∧ placeR ino l i < i + l.length) := by
  induction l with
  | nil => intro i; exact .inl rfl
  | cons x l ih =>
    intro i
    rw [placeR]
    split
    · right; simp only [List.length_cons]; omega
    · rcases ih (i + 1) with h | h
      · exact .inl h
      · right; simp only [List.length_cons]; omega
def atOk (l : List S45) : Bool := if placeR 1 l 0 < 0 then false else ((rd_T45 l (placeR 1 l 0)).f1 == 2)
theorem at_one (l : List S45) (nx : Int) (hl : l.length ≤ 1048576) (hs : ∀ x ∈ l, InoT x) :
    Ev (fun k => (impl_InodeAt.f k l nx 1).bind fun bt => (if bt.2.2.2.2.2.2 = true then (some (bt.2.1 == 2)) else (some false))) (atOk l) := by
  unfold impl_InodeAt.f impl_placeOf.f atOk
  rw [if_pos (by omega)]
  simp only [Option.bind_some]
  by_cases c : placeR 1 l 0 < 0
  · simp only [if_pos c, Option.bind_some]
    exact Ev.now _
  · simp only [if_neg c]
    have hr := placeR_range 1 l 0
    obtain ⟨n, hn⟩ : ∃ n : Nat, placeR 1 l 0 = n := ⟨(placeR 1 l 0).toNat, by omega⟩
    rw [hn] at hr c ⊢
    have hlt : n < l.length := by omega
    have hrd : rd_T45 l (n : Int) = l[n] := getD_at l _ n hlt
    simp only [hrd, copy_inode l[n] (hs _ (List.getElem_mem hlt)), Option.bind_some]
    rw [if_pos (by omega), if_pos (by omega)]
    simp only [Option.bind_some, if_true]
    exact Ev.now _
theorem at_head (nx : Int) (l : List S45) (hp : 0 < l.length) : (tabR nx none l && atOk l) = (tabR nx none l && headOk l) := by
  cases h : tabR nx none l with
  | false => rfl
  | true =>
    cases l with
    | nil => simp at hp
    | cons x l =>
      have hh := place_head nx x l h
      simp only [Bool.true_and, atOk, headOk, hh]
      have h0 : rd_T45 (x :: l) 0 = x := rfl
      by_cases c : x.f0 = 1
      · simp [c, h0]
      · simp [c, h0]
theorem spec_tabOk (l : List S45) (nx : Int) (hl : l.length ≤ 1048576) (hs : ∀ x ∈ l, InoT x) : Ev (fun k => spec_TabOk.f k l nx) (tabOk l nx) := by
  unfold spec_TabOk.f tabOk
  simp only [spec_in, Option.bind_some]
  have no : ∀ r : Bool, r = false → Ev (fun k => spec_TabOk.j0 k true l nx) r := by
    intro r hr
    apply evPre
    simp only [spec_TabOk.j0]
    exact evP (by simp) (evC (Ev.now _) hr.symm)
  by_cases c1 : 1 ≤ l.length ∧ l.length ≤ 30
  · refine evP (by simp; omega) ?_
    by_cases c2 : 2 ≤ nx ∧ nx ≤ 1000
    · apply evPre
      simp only [spec_TabOk.j0]
      refine evN (by simp [c2]) (evC (spec_tab_loop l nx hl hs (by omega)) ?_)
      simp [c1, c2]
    · rw [show decide (2 ≤ nx ∧ nx ≤ 1000) = false from decide_eq_false c2]
      exact no _ (by simp)
  · refine evN (by simp; omega) (no _ ?_)
    rw [show decide (1 ≤ l.length ∧ l.length ≤ 30) = false from decide_eq_false c1]
    rfl
theorem impl_tabOk (l : List S45) (nx : Int) (hl : l.length ≤ 1048576) (hs : ∀ x ∈ l, InoT x) : Ev (fun k => impl_TabOk.f k l nx) (tabOk l nx) := by
  unfold impl_TabOk.f tabOk
  simp only [impl_fr, Option.bind_some]
  have no : ∀ r : Bool, r = false → Ev (fun k => impl_TabOk.j0 k true l nx) r := by
    intro r hr
    apply evPre
    simp only [impl_TabOk.j0]
    exact evP (by simp) (evC (Ev.now _) hr.symm)
  by_cases c1 : l.length ≤ 30
  · refine evN (by omega) ?_
    by_cases c2 : 2 ≤ nx ∧ nx ≤ 1000
    · apply evPre
      simp only [impl_TabOk.j0]
      refine evN (by simp [c2]) (evC (impl_tab_loop l nx hl hs _ (at_one l nx hl hs)) ?_)
      by_cases c0 : 1 ≤ l.length
      · rw [at_head nx l c0]; simp [c0, c1, c2]
      · obtain rfl : l = [] := List.eq_nil_of_length_eq_zero (by omega)
        simp [tabR, atOk, placeR]
    · rw [show decide (2 ≤ nx ∧ nx ≤ 1000) = false from decide_eq_false c2]
      exact no _ (by simp)
  · refine evP (by omega) (no _ ?_)
    rw [show decide (1 ≤ l.length ∧ l.length ≤ 30) = false from decide_eq_false (by omega)]
    rfl
end Go.Proofs.Ytkknehgaebhbeaa.Q
