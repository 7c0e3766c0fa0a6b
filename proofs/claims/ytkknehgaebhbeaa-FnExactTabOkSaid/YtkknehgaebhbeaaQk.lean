/- InodeOk, UsageOf, LinksOf: what the program's and the reference's functions answer, in plain words. No condition. -/
import Derived.Test.YtkknehgaebhbeaaQi2
import Derived.Test.YtkknehgaebhbeaaQb
import Derived.Test.YtkknehgaebhbeaaPx0
import Derived.Test.YtkknehgaebhbeaaPx4
import Derived.Test.YtkknehgaebhbeaaPx5
import Derived.Test.YtkknehgaebhbeaaPx6
namespace Go.Proofs.Ytkknehgaebhbeaa.Q
open Go.RowKit Go.Proofs.Ytkknehgaebhbeaa.P Go.Proofs.YtkknehgaebhbeaaW.PrintWords Go.Proofs.YtkknehgaebhbeaaW.PrintLast Go.Proofs.YtkknehgaebhbeaaW.PrintMore

def lessB (a b : ByteArray) : Bool := Op.bytesLess a.toList b.toList
def upTo (p : Option ByteArray) (s : ByteArray) : Bool := match p with | none => true | some q => lessB q s
def entsR : Option ByteArray → List S83 → Bool
  | _, [] => true
  | p, e :: l => nameOk e.f0 && decide (2 ≤ e.f1 ∧ e.f1 ≤ 1000) && upTo p e.f0 && entsR (some e.f0) l
def attrsR : Option ByteArray → List S85 → Bool
  | _, [] => true
  | p, e :: l => nameOk e.f0 && decide (1 ≤ e.f1.size ∧ e.f1.size ≤ 16) && upTo p e.f0 && attrsR (some e.f0) l
def entPrev (l : List S83) (i : Nat) : Option ByteArray := if i = 0 then none else some (rd_T83 l ((i : Int) - 1)).f0
def attrPrev (l : List S85) (i : Nat) : Option ByteArray := if i = 0 then none else some (rd_T85 l ((i : Int) - 1)).f0
theorem entPrev_next (l : List S83) (i : Nat) (h : i < l.length) : entPrev l (i + 1) = some l[i].f0 := by
  unfold entPrev
  rw [if_neg (by omega), show (((i + 1 : Nat) : Int) - 1) = (i : Int) from by omega, rd_T83, getD_at l _ i h]
theorem attrPrev_next (l : List S85) (i : Nat) (h : i < l.length) : attrPrev l (i + 1) = some l[i].f0 := by
  unfold attrPrev
  rw [if_neg (by omega), show (((i + 1 : Nat) : Int) - 1) = (i : Int) from by omega, rd_T85, getD_at l _ i h]
def entsOk (l : List S83) : Bool := entsR none l && decide (l.length ≤ 10)
def attrsOk (l : List S85) : Bool := attrsR none l && decide (l.length ≤ 4)

theorem spec_ents (l : List S83) (hl : l.length ≤ 1048576) (hn : ∀ e ∈ l, e.f0.size ≤ 1048576) : Ev (fun k => spec_l3Ents.f k l) (entsOk l) := by
  have key : Ev (fun k => spec_l3Ents.l0 k l (0 : Nat)) (entsR (entPrev l 0) (l.drop 0) && decide (l.length ≤ 10)) := by
    refine down (n := l.length) (P := fun i => Ev (fun k => spec_l3Ents.l0 k l (i : Nat)) (entsR (entPrev l i) (l.drop i) && decide (l.length ≤ 10))) ?_ (fun i hi h => ?_)
    · rw [List.drop_length]
      apply evPre
      simp only [spec_l3Ents.l0, entsR]
      refine evN (by omega) (evC (Ev.now _) ?_)
      simp; omega
    · rw [List.drop_eq_getElem_cons hi]
      rw [entPrev_next l i hi] at h
      apply evPre
      simp only [spec_l3Ents.l0]
      refine evP (by omega) ?_
      have hname := spec_name l[i].f0 (by have := hn _ (List.getElem_mem hi); omega)
      have hrd : rd_T83 l (i : Int) = l[i] := getD_at l _ i hi
      rw [hrd, nxt i l.length hi (by omega)]
      simp only [entsR, spec_in, Option.bind_some]
      refine evP (by omega) (Ev.bind hname ?_)
      by_cases c1 : nameOk l[i].f0 = true
      · refine evP c1 ?_
        by_cases c2 : 2 ≤ l[i].f1 ∧ l[i].f1 ≤ 1000
        · refine evP (by simp [c2]) ?_
          by_cases c3 : i = 0
          · subst c3
            refine evN (by omega) (evC h ?_)
            simp [c1, c2, entPrev, upTo]
          · rw [w64 (n := (i : Int) - 1) (by omega) (by omega)]
            have hu : upTo (entPrev l i) l[i].f0 = Op.bytesLess (rd_T83 l ((i : Int) - 1)).f0.toList l[i].f0.toList := by unfold entPrev; rw [if_neg c3]; rfl
            refine evP (by omega) (evP (by omega) (evP (by omega) ?_))
            by_cases c4 : Op.bytesLess (rd_T83 l ((i : Int) - 1)).f0.toList l[i].f0.toList = true
            · refine evP c4 (evC h ?_)
              simp [c1, c2, hu, c4]
            · refine evN c4 (evC (Ev.now _) ?_)
              simp [hu, c4]
        · refine evN (by simp; omega) (evC (Ev.now _) ?_)
          have : decide (2 ≤ l[i].f1 ∧ l[i].f1 ≤ 1000) = false := decide_eq_false c2
          simp [this]
      · refine evN c1 (evC (Ev.now _) ?_)
        simp [c1]
  simpa [spec_l3Ents.f, entsOk, entPrev] using key
theorem spec_attrs (l : List S85) (hl : l.length ≤ 1048576) (hn : ∀ e ∈ l, e.f0.size ≤ 1048576) : Ev (fun k => spec_l3Attrs.f k l) (attrsOk l) := by
  have key : Ev (fun k => spec_l3Attrs.l0 k l (0 : Nat)) (attrsR (attrPrev l 0) (l.drop 0) && decide (l.length ≤ 4)) := by
    refine down (n := l.length) (P := fun i => Ev (fun k => spec_l3Attrs.l0 k l (i : Nat)) (attrsR (attrPrev l i) (l.drop i) && decide (l.length ≤ 4))) ?_ (fun i hi h => ?_)
    · rw [List.drop_length]
      apply evPre
      simp only [spec_l3Attrs.l0, attrsR]
      refine evN (by omega) (evC (Ev.now _) ?_)
      simp; omega
    · rw [List.drop_eq_getElem_cons hi]
      rw [attrPrev_next l i hi] at h
      apply evPre
      simp only [spec_l3Attrs.l0]
      refine evP (by omega) ?_
      have hname := spec_name l[i].f0 (by have := hn _ (List.getElem_mem hi); omega)
      have hrd : rd_T85 l (i : Int) = l[i] := getD_at l _ i hi
      rw [hrd, nxt i l.length hi (by omega)]
      simp only [attrsR, spec_in, Option.bind_some]
      refine evP (by omega) (Ev.bind hname ?_)
      by_cases c1 : nameOk l[i].f0 = true
      · refine evP c1 ?_
        by_cases c2 : 1 ≤ l[i].f1.size ∧ l[i].f1.size ≤ 16
        · refine evP (by simp; omega) ?_
          by_cases c3 : i = 0
          · subst c3
            refine evN (by omega) (evC h ?_)
            simp [c1, c2, attrPrev, upTo]
          · rw [w64 (n := (i : Int) - 1) (by omega) (by omega)]
            have hu : upTo (attrPrev l i) l[i].f0 = Op.bytesLess (rd_T85 l ((i : Int) - 1)).f0.toList l[i].f0.toList := by unfold attrPrev; rw [if_neg c3]; rfl
            refine evP (by omega) (evP (by omega) (evP (by omega) ?_))
            by_cases c4 : Op.bytesLess (rd_T85 l ((i : Int) - 1)).f0.toList l[i].f0.toList = true
            · refine evP c4 (evC h ?_)
              simp [c1, c2, hu, c4]
            · refine evN c4 (evC (Ev.now _) ?_)
              simp [hu, c4]
        · refine evN (by simp; omega) (evC (Ev.now _) ?_)
          have : decide (1 ≤ l[i].f1.size ∧ l[i].f1.size ≤ 16) = false := decide_eq_false c2
          simp [this]
      · refine evN c1 (evC (Ev.now _) ?_)
        simp [c1]
  simpa [spec_l3Attrs.f, attrsOk, attrPrev] using key
theorem impl_fr (a b c : Int) : impl_from.f a b c = some (decide (b ≤ a ∧ a ≤ c)) := by
  unfold impl_from.f
  by_cases h : a ≥ b
  · rw [if_pos h]; simp [show b ≤ a from h]
  · rw [if_neg h]; simp [show ¬ b ≤ a from h]
theorem impl_attrs (l : List S85) (hl : l.length ≤ 1048576) (hn : ∀ e ∈ l, e.f0.size ≤ 1048576) : Ev (fun k => impl_attrsOk.f k l) (attrsOk l) := by
  have key : Ev (fun k => impl_attrsOk.l0 k l l (l.length : Int) (0 : Nat)) (attrsR (attrPrev l 0) (l.drop 0) && decide (l.length ≤ 4)) := by
    refine down (n := l.length) (P := fun i => Ev (fun k => impl_attrsOk.l0 k l l (l.length : Int) (i : Nat)) (attrsR (attrPrev l i) (l.drop i) && decide (l.length ≤ 4))) ?_ (fun i hi h => ?_)
    · rw [List.drop_length]
      apply evPre
      simp only [impl_attrsOk.l0, attrsR]
      refine evN (by omega) (evC (Ev.now _) ?_)
      simp; omega
    · rw [List.drop_eq_getElem_cons hi]
      rw [attrPrev_next l i hi] at h
      apply evPre
      simp only [impl_attrsOk.l0]
      refine evP (by omega) ?_
      have hname := impl_name l[i].f0 (by have := hn _ (List.getElem_mem hi); omega)
      have hrd : rd_T85 l (i : Int) = l[i] := getD_at l _ i hi
      rw [hrd, nxt i l.length hi (by omega)]
      simp only [attrsR, impl_fr, Option.bind_some]
      refine evP (by omega) (evP (by omega) (Ev.bind hname ?_))
      by_cases c1 : nameOk l[i].f0 = true
      · refine evP c1 ?_
        by_cases c2 : 1 ≤ l[i].f1.size ∧ l[i].f1.size ≤ 16
        · refine evP (by simp; omega) ?_
          by_cases c3 : i = 0
          · subst c3
            refine evN (by omega) (evC h ?_)
            simp [c1, c2, attrPrev, upTo]
          · rw [w64 (n := (i : Int) - 1) (by omega) (by omega)]
            have hu : upTo (attrPrev l i) l[i].f0 = Op.bytesLess (rd_T85 l ((i : Int) - 1)).f0.toList l[i].f0.toList := by unfold attrPrev; rw [if_neg c3]; rfl
            refine evP (by omega) (evP (by omega) (evP (by omega) ?_))
            by_cases c4 : Op.bytesLess (rd_T85 l ((i : Int) - 1)).f0.toList l[i].f0.toList = true
            · refine evP c4 (evC h ?_)
              simp [c1, c2, hu, c4]
            · refine evN c4 (evC (Ev.now _) ?_)
              simp [hu, c4]
        · refine evN (by simp; omega) (evC (Ev.now _) ?_)
          have : decide (1 ≤ l[i].f1.size ∧ l[i].f1.size ≤ 16) = false := decide_eq_false c2
          simp [this]
      · refine evN c1 (evC (Ev.now _) ?_)
        simp [c1]
  simpa [impl_attrsOk.f, attrsOk, attrPrev] using key

def kindOk (b c : Int) (d : List Int) (e : List S83) : Bool := if b = 1 then e.length == 0 else if b = 2 then d.length == 0 && decide (c ≤ 1) else false
def inodeOk (a b c : Int) (d : List Int) (e : List S83) (t : List S85) : Bool :=
  decide (1 ≤ a ∧ a ≤ 1000) && decide (0 ≤ c ∧ c ≤ 1000) && ((c == 0) == (a == 1)) && decide (d.length ≤ 100) && entsOk e && attrsOk t && kindOk b c d e
theorem kind_body (b c : Int) (d : List Int) (e : List S83) : (if b = 1 then (some ((e.length : Int) == 0)) else (if b = 2 then (if (d.length : Int) = 0 then (some (decide (c ≤ 1))) else (some false)) else (some false))) = some (kindOk b c d e) := by
  unfold kindOk
  have h1 : ((e.length : Int) == 0) = (e.length == 0) := by rw [Bool.eq_iff_iff]; simp only [beq_iff_eq]; omega
  by_cases hb : b = 1
  · rw [if_pos hb, if_pos hb, h1]
  · rw [if_neg hb, if_neg hb]
    by_cases hb2 : b = 2
    · rw [if_pos hb2, if_pos hb2]
      by_cases hd : d.length = 0
      · rw [if_pos (by omega)]; simp [hd]
      · rw [if_neg (by omega)]; simp [hd]
    · rw [if_neg hb2, if_neg hb2]
theorem ne_eq_not (x y : Bool) : (x != y) = !(x == y) := rfl
theorem spec_inodeOk (a b c : Int) (d : List Int) (e : List S83) (t : List S85) (he : e.length ≤ 1048576) (ht : t.length ≤ 1048576) (hen : ∀ x ∈ e, x.f0.size ≤ 1048576) (htn : ∀ x ∈ t, x.f0.size ≤ 1048576) :
    Ev (fun k => spec_InodeOk.f k a b c d e t) (inodeOk a b c d e t) := by
  unfold spec_InodeOk.f
  simp only [spec_in, Option.bind_some]
  have no : ∀ r : Bool, r = false → Ev (fun k => spec_InodeOk.j0 k true a b c d e t) r := by
    intro r hr
    try (apply evPre; simp only [spec_InodeOk.j0, kind_body])
    exact evP (by simp) (evC (Ev.now _) hr.symm)
  by_cases c1 : 1 ≤ a ∧ a ≤ 1000
  · refine evP (by simp [c1]) ?_
    by_cases c2 : 0 ≤ c ∧ c ≤ 1000
    · refine evP (by simp [c2]) ?_
      by_cases c3 : ((c == 0) == (a == 1)) = true
      · refine evN (by rw [ne_eq_not, c3]; simp) ?_
        by_cases c4 : d.length ≤ 100
        · refine evN (by omega) (Ev.bind (spec_ents e he hen) ?_)
          by_cases c5 : entsOk e = true
          · refine evP c5 (Ev.bind (spec_attrs t ht htn) ?_)
            try (apply evPre; simp only [spec_InodeOk.j0, kind_body])
            by_cases c6 : attrsOk t = true
            · refine evN (by simp [c6]) ?_
              refine evC (Ev.now _) ?_
              unfold inodeOk
              simp only [c1, c2, c3, c4, c5, c6, and_self, decide_true, Bool.true_and]
            · refine evP (by simp [c6]) (evC (Ev.now _) ?_)
              simp [inodeOk, c6]
          · exact evN c5 (no _ (by simp [inodeOk, c5]))
        · exact evP (by omega) (no _ (by simp [inodeOk, c4]))
      · refine evP (by rw [ne_eq_not]; simpa using c3) (no _ ?_)
        unfold inodeOk
        rw [Bool.not_eq_true] at c3
        simp [c3]
    · refine evN (by simp; omega) (no _ ?_)
      have : decide (0 ≤ c ∧ c ≤ 1000) = false := decide_eq_false c2
      simp [inodeOk, this]
  · refine evN (by simp; omega) (no _ ?_)
    have : decide (1 ≤ a ∧ a ≤ 1000) = false := decide_eq_false c1
    simp [inodeOk, this]
theorem impl_inode_loop (a b c : Int) (d : List Int) (l : List S83) (t : List S85) (hl : l.length ≤ 1048576) (hn : ∀ x ∈ l, x.f0.size ≤ 1048576) :
    Ev (fun k => impl_InodeOk.l0 k l (l.length : Int) 0 a b c d l t) (entsR none l && (decide (0 ≤ c ∧ c ≤ 1000) && ((c == 0) == (a == 1)) && kindOk b c d l)) := by
  generalize hE : (decide (0 ≤ c ∧ c ≤ 1000) && ((c == 0) == (a == 1)) && kindOk b c d l) = E
  have key : Ev (fun k => impl_InodeOk.l0 k l (l.length : Int) (0 : Nat) a b c d l t) (entsR (entPrev l 0) (l.drop 0) && E) := by
    refine down (n := l.length) (P := fun i => Ev (fun k => impl_InodeOk.l0 k l (l.length : Int) (i : Nat) a b c d l t) (entsR (entPrev l i) (l.drop i) && E)) ?_ (fun i hi h => ?_)
    · rw [List.drop_length]
      apply evPre
      simp only [impl_InodeOk.l0, entsR, impl_fr, Option.bind_some]
      refine evN (by omega) ?_
      have fin : ∀ x : Bool, (x = !(((c == 0) == (a == 1)) && decide (0 ≤ c ∧ c ≤ 1000))) → Ev (fun k => impl_InodeOk.j2 k x a b c d l t) (true && E) := by
        intro x hx
        try (apply evPre; simp only [impl_InodeOk.j2, kind_body])
        by_cases cx : x = true
        · refine evP cx (evC (Ev.now _) ?_)
          rw [cx] at hx
          have : (((c == 0) == (a == 1)) && decide (0 ≤ c ∧ c ≤ 1000)) = false := by
            cases hz : (((c == 0) == (a == 1)) && decide (0 ≤ c ∧ c ≤ 1000)) with
            | false => rfl
            | true => rw [hz] at hx; exact absurd hx (by decide)
          rw [← hE, Bool.and_comm (decide _), this]
          simp
        · refine evN cx ?_
          refine evC (Ev.now _) ?_
          have : (((c == 0) == (a == 1)) && decide (0 ≤ c ∧ c ≤ 1000)) = true := by cases hz : (((c == 0) == (a == 1)) && decide (0 ≤ c ∧ c ≤ 1000)) <;> simp_all
          rw [← hE, Bool.and_comm (decide _), this]
          simp
      by_cases c2 : 0 ≤ c ∧ c ≤ 1000
      · exact evP (by simp [c2]) (fin _ (by rw [ne_eq_not]; simp [c2]))
      · exact evN (by simp; omega) (fin _ (by have : decide (0 ≤ c ∧ c ≤ 1000) = false := decide_eq_false c2; simp [this]))
    · rw [List.drop_eq_getElem_cons hi]
      rw [entPrev_next l i hi] at h
      apply evPre
      simp only [impl_InodeOk.l0]
      refine evP (by omega) ?_
      have hname := impl_name l[i].f0 (by have := hn _ (List.getElem_mem hi); omega)
      have hrd : rd_T83 l (i : Int) = l[i] := getD_at l _ i hi
      rw [hrd, nxt i l.length hi (by omega)]
      simp only [entsR, impl_fr, Option.bind_some]
      refine evP (by omega) (evP (by omega) (Ev.bind hname ?_))
      by_cases c1 : nameOk l[i].f0 = true
      · refine evP c1 ?_
        by_cases c2 : 2 ≤ l[i].f1 ∧ l[i].f1 ≤ 1000
        · refine evP (by simp [c2]) ?_
          by_cases c3 : i = 0
          · subst c3
            refine evN (by omega) (evC h ?_)
            simp [c1, c2, entPrev, upTo]
          · rw [w64 (n := (i : Int) - 1) (by omega) (by omega)]
            have hu : upTo (entPrev l i) l[i].f0 = Op.bytesLess (rd_T83 l ((i : Int) - 1)).f0.toList l[i].f0.toList := by unfold entPrev; rw [if_neg c3]; rfl
            refine evP (by omega) (evP (by omega) (evP (by omega) ?_))
            by_cases c4 : Op.bytesLess (rd_T83 l ((i : Int) - 1)).f0.toList l[i].f0.toList = true
            · refine evP c4 (evC h ?_)
              simp [c1, c2, hu, c4]
            · refine evN c4 (evC (Ev.now _) ?_)
              simp [hu, c4]
        · refine evN (by simp; omega) (evC (Ev.now _) ?_)
          have : decide (2 ≤ l[i].f1 ∧ l[i].f1 ≤ 1000) = false := decide_eq_false c2
          simp [this]
      · refine evN c1 (evC (Ev.now _) ?_)
        simp [c1]
  simpa [entPrev] using key
theorem impl_inodeOk (a b c : Int) (d : List Int) (e : List S83) (t : List S85) (he : e.length ≤ 1048576) (ht : t.length ≤ 1048576) (hen : ∀ x ∈ e, x.f0.size ≤ 1048576) (htn : ∀ x ∈ t, x.f0.size ≤ 1048576) :
    Ev (fun k => impl_InodeOk.f k a b c d e t) (inodeOk a b c d e t) := by
  unfold impl_InodeOk.f
  simp only [impl_fr, Option.bind_some]
  have no : ∀ r : Bool, r = false → Ev (fun k => impl_InodeOk.j0 k true a b c d e t) r := by
    intro r hr
    try (apply evPre; simp only [impl_InodeOk.j0])
    exact evP (by simp) (evC (Ev.now _) hr.symm)
  by_cases c1 : 1 ≤ a ∧ a ≤ 1000
  · refine evP (by simp [c1]) ?_
    by_cases c4 : d.length ≤ 100
    · refine evN (by omega) ?_
      by_cases c5 : e.length ≤ 10
      · refine evN (by omega) (Ev.bind (impl_attrs t ht htn) ?_)
        try (apply evPre; simp only [impl_InodeOk.j0])
        by_cases c6 : attrsOk t = true
        · refine evN (by simp [c6]) ?_
          refine evC (impl_inode_loop a b c d e t he hen) ?_
          unfold inodeOk entsOk
          simp only [c1, c4, c5, c6, and_self, decide_true, Bool.true_and, Bool.and_true]
          cases entsR none e <;> cases decide (0 ≤ c ∧ c ≤ 1000) <;> cases ((c == 0) == (a == 1)) <;> cases kindOk b c d e <;> rfl
        · refine evP (by simp [c6]) (evC (Ev.now _) ?_)
          simp [inodeOk, c6]
      · exact evP (by omega) (no _ (by simp [inodeOk, entsOk, c5]))
    · exact evP (by omega) (no _ (by simp [inodeOk, c4]))
  · refine evN (by simp; omega) (no _ ?_)
    have : decide (1 ≤ a ∧ a ≤ 1000) = false := decide_eq_false c1
    simp [inodeOk, this]
end Go.Proofs.Ytkknehgaebhbeaa.Q
