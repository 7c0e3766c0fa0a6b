/- What the functions that the law reaches answer, in plain words. No condition. -/
import Derived.Laws.BitsLemmas
import Derived.Test.YtkcfmbggdkkfeaaGreatDoorPx0
import Derived.Test.YtkcfmbggdkkfeaaGreatDoorPx1
import Derived.Test.YtkcfmbggdkkfeaaGreatDoorPx10
import Derived.Test.YtkcfmbggdkkfeaaGreatDoorPx11
import Derived.Test.YtkcfmbggdkkfeaaGreatDoorPx12
import Derived.Test.YtkcfmbggdkkfeaaGreatDoorPx13
import Derived.Test.YtkcfmbggdkkfeaaGreatDoorPx14
import Derived.Test.YtkcfmbggdkkfeaaGreatDoorPx15
import Derived.Test.YtkcfmbggdkkfeaaGreatDoorPx2
import Derived.Test.YtkcfmbggdkkfeaaGreatDoorPx3
import Derived.Test.YtkcfmbggdkkfeaaGreatDoorPx4
import Derived.Test.YtkcfmbggdkkfeaaGreatDoorPx5
import Derived.Test.YtkcfmbggdkkfeaaGreatDoorPx6
import Derived.Test.YtkcfmbggdkkfeaaGreatDoorPx7
import Derived.Test.YtkcfmbggdkkfeaaGreatDoorPx8
import Derived.Test.YtkcfmbggdkkfeaaGreatDoorPx9
import Derived.Test.YtkcfmbggdkkfeaaGreatDoorWMore
set_option linter.unusedVariables false
set_option linter.unusedSimpArgs false
namespace Go.Proofs.YtkcfmbggdkkfeaaGreatDoor.Q
open Go.RowKit Go.Proofs.YtkcfmbggdkkfeaaGreatDoorW.PrintWords Go.Proofs.YtkcfmbggdkkfeaaGreatDoorW.PrintLast Go.Proofs.YtkcfmbggdkkfeaaGreatDoorW.PrintMore

theorem evPre {α : Type} {g : Nat → Option α} {r : α} (h : Ev (fun k => g (k + 1)) r) : Ev g r := by
  obtain ⟨K, h⟩ := h
  refine ⟨K + 1, fun n hn => ?_⟩
  obtain ⟨m, rfl⟩ : ∃ m, n = m + 1 := ⟨n - 1, by omega⟩
  exact h m (by omega)
theorem evP {α : Type} {c : Prop} [Decidable c] {A B : Nat → Option α} {r : α} (hc : c) (h : Ev A r) : Ev (fun k => if c then A k else B k) r := by
  simpa only [if_pos hc] using h
theorem evN {α : Type} {c : Prop} [Decidable c] {A B : Nat → Option α} {r : α} (hc : ¬ c) (h : Ev B r) : Ev (fun k => if c then A k else B k) r := by
  simpa only [if_neg hc] using h
theorem evI {α : Type} {c : Prop} [Decidable c] {A B : Nat → Option α} {r s : α} (hp : c → Ev A r) (hn : ¬ c → Ev B s) : Ev (fun k => if c then A k else B k) (if c then r else s) := by
  by_cases hc : c
  · simpa only [if_pos hc] using hp hc
  · simpa only [if_neg hc] using hn hc
theorem evI' {α : Type} {c : Prop} [Decidable c] {A B : Nat → Option α} {r : α} (hp : c → Ev A r) (hn : ¬ c → Ev B r) : Ev (fun k => if c then A k else B k) r := by
  by_cases hc : c
  · simpa only [if_pos hc] using hp hc
  · simpa only [if_neg hc] using hn hc
theorem evC {α : Type} {g : Nat → Option α} {r s : α} (h : Ev g r) (e : r = s) : Ev g s := e ▸ h

theorem w64 {n : Int} (h0 : -9223372036854775808 ≤ n) (h1 : n ≤ 9223372036854775807) : wrap64 n = n := by
  unfold wrap64
  omega
theorem wf8 {n : Int} (h : (Lit.int .u8 n).wf = true) : 0 ≤ n ∧ n ≤ 255 := by
  simpa [Lit.wf, IntKind.min, IntKind.max, IntKind.signed, IntKind.bits] using h

/-- All bytes. -/
def Byt (l : List Int) : Prop := ∀ x ∈ l, 0 ≤ x ∧ x ≤ 255
theorem Byt.rd {l : List Int} (h : Byt l) (i : Int) : 0 ≤ rd l i ∧ rd l i ≤ 255 := by
  unfold Go.Proofs.YtkcfmbggdkkfeaaGreatDoorW.PrintWords.rd
  rw [List.getD_eq_getElem?_getD]
  by_cases hi : i.toNat < l.length
  · rw [List.getElem?_eq_getElem hi]
    exact h _ (List.getElem_mem hi)
  · rw [List.getElem?_eq_none (by omega)]
    simp
theorem drop_cons (l : List Int) (i : Nat) (h : i < l.length) : l.drop i = rd l i :: l.drop (i + 1) := by
  rw [List.drop_eq_getElem_cons h]
  simp [Go.Proofs.YtkcfmbggdkkfeaaGreatDoorW.PrintWords.rd, List.getElem?_eq_getElem h]
end Go.Proofs.YtkcfmbggdkkfeaaGreatDoor.Q
namespace Go.Proofs.YtkcfmbggdkkfeaaGreatDoor.Q
open Go.RowKit Go.Proofs.YtkcfmbggdkkfeaaGreatDoor.P Go.Proofs.YtkcfmbggdkkfeaaGreatDoorW.PrintWords Go.Proofs.YtkcfmbggdkkfeaaGreatDoorW.PrintLast Go.Proofs.YtkcfmbggdkkfeaaGreatDoorW.PrintMore

def goodc (c : Int) : Bool := decide (97 ≤ c ∧ c ≤ 122 ∨ 48 ≤ c ∧ c ≤ 57 ∨ c = 95 ∨ c = 45 ∨ c = 46)
/-- What is asked of a name beside its letters. -/
def nameEnd (s : ByteArray) : Bool := decide (1 ≤ s.size ∧ s.size ≤ 14) && s.toList != ([46] : List UInt8) && s.toList != ([46, 46] : List UInt8)
def nameOk (s : ByteArray) : Bool := (bytesOf s).all goodc && nameEnd s

theorem nameEnd_impl (s : ByteArray) : (if (s.size : Int) ≥ 1 then (if (s.size : Int) ≤ 14 then (if s.toList = ([46] : List UInt8) then (some false) else (some (s.toList != ([46, 46] : List UInt8)))) else (some false)) else (some false)) = some (nameEnd s) := by
  unfold nameEnd
  by_cases h : 1 ≤ s.size
  · rw [if_pos (by omega)]
    by_cases h2 : s.size ≤ 14
    · rw [if_pos (by omega)]
      by_cases h1 : s.toList = [46]
      · simp [h1]
      · rw [if_neg h1]; simp [h, h2, h1]
    · rw [if_neg (by omega)]; simp [h2]
  · rw [if_neg (by omega)]; simp [h]

theorem drop_bytes (s : ByteArray) (i : Nat) (h : i < s.size) : (bytesOf s).drop i = bt s i :: (bytesOf s).drop (i + 1) := by
  rw [drop_cons _ _ (by rw [bytesOf_length]; exact h), rd_bytesOf]

theorem impl_name_loop (s : ByteArray) (hs : s.size ≤ 9223372036854775807) (n : Nat) : ∀ (i : Nat), i ≤ s.size → s.size - i = n →
    Ev (fun k => impl_NameOk.l0 k s (s.size : Int) i) (((bytesOf s).drop i).all goodc && nameEnd s) := by
  induction n with
  | zero =>
    intro i hi hn
    apply evPre
    simp only [impl_NameOk.l0]
    refine evN (by omega) ?_
    rw [nameEnd_impl, List.drop_eq_nil_of_le (by rw [bytesOf_length]; omega)]
    simpa using Ev.now _
  | succ n ih =>
    intro i hi hn
    have hlt : i < s.size := by omega
    have hr := bt_range s i
    have ih := ih (i + 1) (by omega) (by omega)
    rw [show ((i + 1 : Nat) : Int) = wrap64 ((i : Int) + 1) from by rw [w64 (by omega) (by omega)]; simp] at ih
    apply evPre
    simp only [impl_NameOk.l0]
    rw [drop_bytes s i hlt, List.all_cons]
    refine evP (by omega) (evP (by omega) (evP (by omega) ?_))
    generalize bt s i = c at *
    by_cases hg : goodc c = true
    · have e : (((bytesOf s).drop (i + 1)).all goodc && nameEnd s) = (goodc c && ((bytesOf s).drop (i + 1)).all goodc && nameEnd s) := by simp [hg]
      replace ih := evC ih e
      simp only [goodc, decide_eq_true_eq] at hg
      repeat (first | exact ih | refine evI' (fun _ => ?_) (fun _ => ?_) | (exfalso; omega))
    · have e : false = (goodc c && ((bytesOf s).drop (i + 1)).all goodc && nameEnd s) := by simp [hg]
      have no := evC (Ev.now false) e
      simp only [goodc, decide_eq_true_eq] at hg
      repeat (first | exact no | refine evI' (fun _ => ?_) (fun _ => ?_) | (exfalso; omega))
theorem impl_name (s : ByteArray) (hs : s.size ≤ 9223372036854775807) : Ev (fun k => impl_NameOk.f k s) (nameOk s) := by
  have h := impl_name_loop s hs s.size 0 (by omega) (by omega)
  simpa [impl_NameOk.f, nameOk] using h
end Go.Proofs.YtkcfmbggdkkfeaaGreatDoor.Q
namespace Go.Proofs.YtkcfmbggdkkfeaaGreatDoor.Q
open Go.RowKit Go.Proofs.YtkcfmbggdkkfeaaGreatDoor.P Go.Proofs.YtkcfmbggdkkfeaaGreatDoorW.PrintWords Go.Proofs.YtkcfmbggdkkfeaaGreatDoorW.PrintLast Go.Proofs.YtkcfmbggdkkfeaaGreatDoorW.PrintMore

end Go.Proofs.YtkcfmbggdkkfeaaGreatDoor.Q
namespace Go.Proofs.YtkcfmbggdkkfeaaGreatDoor.Q
open Go.RowKit Go.Proofs.YtkcfmbggdkkfeaaGreatDoorW.PrintWords Go.Proofs.YtkcfmbggdkkfeaaGreatDoorW.PrintLast Go.Proofs.YtkcfmbggdkkfeaaGreatDoorW.PrintMore

/-- A loop over places, from what is told at each of them: a fold over the list from its end. -/
theorem ev_fold {α γ : Type} (L : Nat → Int → Option γ) (xs : List α) (F : List α → γ) (h1 : Ev (fun k => L k (xs.length : Nat)) (F []))
    (h2 : ∀ (i : Nat) (hi : i < xs.length), Ev (fun k => L k ((i + 1 : Nat) : Int)) (F (xs.drop (i + 1))) → Ev (fun k => L k (i : Nat)) (F (xs[i] :: xs.drop (i + 1)))) : Ev (fun k => L k 0) (F xs) := by
  have key : ∀ m i : Nat, xs.length - i = m → i ≤ xs.length → Ev (fun k => L k (i : Nat)) (F (xs.drop i)) := by
    intro m
    induction m with
    | zero =>
      intro i hm hi
      obtain rfl : i = xs.length := by omega
      rw [List.drop_length]
      exact h1
    | succ m ih =>
      intro i hm hi
      rw [List.drop_eq_getElem_cons (by omega)]
      exact h2 i (by omega) (ih (i + 1) (by omega) (by omega))
  simpa using key xs.length 0 (by omega) (by omega)
theorem getD_at {α : Type} (xs : List α) (z : α) (i : Nat) (hi : i < xs.length) : xs.getD ((i : Nat) : Int).toNat z = xs[i] := by
  simp [List.getD_eq_getElem?_getD, List.getElem?_eq_getElem hi]
end Go.Proofs.YtkcfmbggdkkfeaaGreatDoor.Q
namespace Go.Proofs.YtkcfmbggdkkfeaaGreatDoor.Q
open Go.RowKit Go.Proofs.YtkcfmbggdkkfeaaGreatDoor.P Go.Proofs.YtkcfmbggdkkfeaaGreatDoorW.PrintWords Go.Proofs.YtkcfmbggdkkfeaaGreatDoorW.PrintLast Go.Proofs.YtkcfmbggdkkfeaaGreatDoorW.PrintMore

/-- n marks from k on. -/
def marks (n : Nat) (k : Int) : List Int := (List.range n).map fun (i : Nat) => (k + (i : Int)) % 256
end Go.Proofs.YtkcfmbggdkkfeaaGreatDoor.Q
namespace Go.Proofs.YtkcfmbggdkkfeaaGreatDoor.Q
open Go.RowKit Go.Proofs.YtkcfmbggdkkfeaaGreatDoor.P Go.Proofs.YtkcfmbggdkkfeaaGreatDoorW.PrintWords Go.Proofs.YtkcfmbggdkkfeaaGreatDoorW.PrintLast Go.Proofs.YtkcfmbggdkkfeaaGreatDoorW.PrintMore

theorem nxt (i : Nat) (n : Nat) (hi : i < n) (hn : n ≤ 9223372036854775807) : wrap64 ((i : Int) + 1) = ((i + 1 : Nat) : Int) := by
  rw [w64 (by omega) (by omega)]; omega
end Go.Proofs.YtkcfmbggdkkfeaaGreatDoor.Q
namespace Go.Proofs.YtkcfmbggdkkfeaaGreatDoor.Q
open Go.RowKit Go.Proofs.YtkcfmbggdkkfeaaGreatDoor.P Go.Proofs.YtkcfmbggdkkfeaaGreatDoorW.PrintWords Go.Proofs.YtkcfmbggdkkfeaaGreatDoorW.PrintLast Go.Proofs.YtkcfmbggdkkfeaaGreatDoorW.PrintMore

/-- From the end to the begin. -/
theorem down {n : Nat} {P : Nat → Prop} (h1 : P n) (h2 : ∀ i, i < n → P (i + 1) → P i) : P 0 := by
  have key : ∀ m i : Nat, n - i = m → i ≤ n → P i := by
    intro m
    induction m with
    | zero => intro i hm hi; obtain rfl : i = n := by omega
              exact h1
    | succ m ih => intro i hm hi; exact h2 i (by omega) (ih (i + 1) (by omega) (by omega))
  exact key n 0 (by omega) (by omega)

end Go.Proofs.YtkcfmbggdkkfeaaGreatDoor.Q
namespace Go.Proofs.YtkcfmbggdkkfeaaGreatDoor.Q
open Go.RowKit Go.Proofs.YtkcfmbggdkkfeaaGreatDoor.P Go.Proofs.YtkcfmbggdkkfeaaGreatDoorW.PrintWords Go.Proofs.YtkcfmbggdkkfeaaGreatDoorW.PrintLast Go.Proofs.YtkcfmbggdkkfeaaGreatDoorW.PrintMore

def lessB (a b : ByteArray) : Bool := Op.bytesLess a.toList b.toList
def upTo (p : Option ByteArray) (s : ByteArray) : Bool := match p with | none => true | some q => lessB q s
def entsR : Option ByteArray → List S65 → Bool
  | _, [] => true
  | p, e :: l => nameOk e.f0 && decide (2 ≤ e.f1 ∧ e.f1 ≤ 1000) && upTo p e.f0 && entsR (some e.f0) l
def attrsR : Option ByteArray → List S71 → Bool
  | _, [] => true
  | p, e :: l => nameOk e.f0 && decide (1 ≤ e.f1.size ∧ e.f1.size ≤ 16) && upTo p e.f0 && attrsR (some e.f0) l
def entPrev (l : List S65) (i : Nat) : Option ByteArray := if i = 0 then none else some (rd_T65 l ((i : Int) - 1)).f0
def attrPrev (l : List S71) (i : Nat) : Option ByteArray := if i = 0 then none else some (rd_T71 l ((i : Int) - 1)).f0
theorem entPrev_next (l : List S65) (i : Nat) (h : i < l.length) : entPrev l (i + 1) = some l[i].f0 := by
  unfold entPrev
  rw [if_neg (by omega), show (((i + 1 : Nat) : Int) - 1) = (i : Int) from by omega, rd_T65, getD_at l _ i h]
theorem attrPrev_next (l : List S71) (i : Nat) (h : i < l.length) : attrPrev l (i + 1) = some l[i].f0 := by
  unfold attrPrev
  rw [if_neg (by omega), show (((i + 1 : Nat) : Int) - 1) = (i : Int) from by omega, rd_T71, getD_at l _ i h]
def entsOk (l : List S65) : Bool := entsR none l && decide (l.length ≤ 10)
def attrsOk (l : List S71) : Bool := attrsR none l && decide (l.length ≤ 4)

theorem impl_fr (a b c : Int) : impl_from.f a b c = some (decide (b ≤ a ∧ a ≤ c)) := by
  unfold impl_from.f
  by_cases h : a ≥ b
  · rw [if_pos h]; simp [show b ≤ a from h]
  · rw [if_neg h]; simp [show ¬ b ≤ a from h]
theorem impl_attrs (l : List S71) (hl : l.length ≤ 1048576) (hn : ∀ e ∈ l, e.f0.size ≤ 1048576) : Ev (fun k => impl_attrsOk.f k l) (attrsOk l) := by
  have key : Ev (fun k => impl_attrsOk.l0 k l l (l.length : Int) (0 : Nat)) (attrsR (attrPrev l 0) (l.drop 0) && decide (l.length ≤ 4)) := by
    refine down (n := l.length) (P := fun i => Ev (fun k => impl_attrsOk.l0 k l l (l.length : Int) (i : Nat)) (attrsR (attrPrev l i) (l.drop i) && decide (l.length ≤ 4))) ?_ (fun i hi h => ?_)
    · rw [List.drop_length]
      apply evPre
      simp only [impl_attrsOk.l0, attrsR]
      refine evN (by omega) (evC (Ev.now _) ?_)
      simp; omega
    · rw [List.drop_eq_getElem_cons hi]
      rw [attrPrev_next l i hi] at h
      apply evPre
      simp only [impl_attrsOk.l0]
      refine evP (by omega) ?_
      have hname := impl_name l[i].f0 (by have := hn _ (List.getElem_mem hi); omega)
      have hrd : rd_T71 l (i : Int) = l[i] := getD_at l _ i hi
      rw [hrd, nxt i l.length hi (by omega)]
      simp only [attrsR, impl_fr, Option.bind_some]
      refine evP (by omega) (evP (by omega) (Ev.bind hname ?_))
      by_cases c1 : nameOk l[i].f0 = true
      · refine evP c1 ?_
        by_cases c2 : 1 ≤ l[i].f1.size ∧ l[i].f1.size ≤ 16
        · refine evP (by simp; omega) ?_
          by_cases c3 : i = 0
          · subst c3
            refine evN (by omega) (evC h ?_)
            simp [c1, c2, attrPrev, upTo]
          · rw [w64 (n := (i : Int) - 1) (by omega) (by omega)]
            have hu : upTo (attrPrev l i) l[i].f0 = Op.bytesLess (rd_T71 l ((i : Int) - 1)).f0.toList l[i].f0.toList := by unfold attrPrev; rw [if_neg c3]; rfl
            refine evP (by omega) (evP (by omega) (evP (by omega) ?_))
            by_cases c4 : Op.bytesLess (rd_T71 l ((i : Int) - 1)).f0.toList l[i].f0.toList = true
            · refine evP c4 (evC h ?_)
              simp [c1, c2, hu, c4]
            · refine evN c4 (evC (Ev.now _) ?_)
              simp [hu, c4]
        · refine evN (by simp; omega) (evC (Ev.now _) ?_)
          have : decide (1 ≤ l[i].f1.size ∧ l[i].f1.size ≤ 16) = false := decide_eq_false c2
          simp [this]
      · refine evN c1 (evC (Ev.now _) ?_)
        simp [c1]
  simpa [impl_attrsOk.f, attrsOk, attrPrev] using key

def kindOk (b c : Int) (d : List Int) (e : List S65) : Bool := if b = 1 then e.length == 0 else if b = 2 then d.length == 0 && decide (c ≤ 1) else false
def inodeOk (a b c : Int) (d : List Int) (e : List S65) (t : List S71) : Bool :=
  decide (1 ≤ a ∧ a ≤ 1000) && decide (0 ≤ c ∧ c ≤ 1000) && ((c == 0) == (a == 1)) && decide (d.length ≤ 100) && entsOk e && attrsOk t && kindOk b c d e
theorem kind_body (b c : Int) (d : List Int) (e : List S65) : (if b = 1 then (some ((e.length : Int) == 0)) else (if b = 2 then (if (d.length : Int) = 0 then (some (decide (c ≤ 1))) else (some false)) else (some false))) = some (kindOk b c d e) := by
  unfold kindOk
  have h1 : ((e.length : Int) == 0) = (e.length == 0) := by rw [Bool.eq_iff_iff]; simp only [beq_iff_eq]; omega
  by_cases hb : b = 1
  · rw [if_pos hb, if_pos hb, h1]
  · rw [if_neg hb, if_neg hb]
    by_cases hb2 : b = 2
    · rw [if_pos hb2, if_pos hb2]
      by_cases hd : d.length = 0
      · rw [if_pos (by omega)]; simp [hd]
      · rw [if_neg (by omega)]; simp [hd]
    · rw [if_neg hb2, if_neg hb2]
theorem ne_eq_not (x y : Bool) : (x != y) = !(x == y) := rfl
theorem impl_inode_loop (a b c : Int) (d : List Int) (l : List S65) (t : List S71) (hl : l.length ≤ 1048576) (hn : ∀ x ∈ l, x.f0.size ≤ 1048576) :
    Ev (fun k => impl_InodeOk.l0 k l (l.length : Int) 0 a b c d l t) (entsR none l && (decide (0 ≤ c ∧ c ≤ 1000) && ((c == 0) == (a == 1)) && kindOk b c d l)) := by
  generalize hE : (decide (0 ≤ c ∧ c ≤ 1000) && ((c == 0) == (a == 1)) && kindOk b c d l) = E
  have key : Ev (fun k => impl_InodeOk.l0 k l (l.length : Int) (0 : Nat) a b c d l t) (entsR (entPrev l 0) (l.drop 0) && E) := by
    refine down (n := l.length) (P := fun i => Ev (fun k => impl_InodeOk.l0 k l (l.length : Int) (i : Nat) a b c d l t) (entsR (entPrev l i) (l.drop i) && E)) ?_ (fun i hi h => ?_)
    · rw [List.drop_length]
      apply evPre
      simp only [impl_InodeOk.l0, entsR, impl_fr, Option.bind_some]
      refine evN (by omega) ?_
      have fin : ∀ x : Bool, (x = !(((c == 0) == (a == 1)) && decide (0 ≤ c ∧ c ≤ 1000))) → Ev (fun k => impl_InodeOk.j2 k x a b c d l t) (true && E) := by
        intro x hx
        try (apply evPre; simp only [impl_InodeOk.j2, kind_body])
        by_cases cx : x = true
        · refine evP cx (evC (Ev.now _) ?_)
          rw [cx] at hx
          have : (((c == 0) == (a == 1)) && decide (0 ≤ c ∧ c ≤ 1000)) = false := by
            cases hz : (((c == 0) == (a == 1)) && decide (0 ≤ c ∧ c ≤ 1000)) with
            | false => rfl
            | true => rw [hz] at hx; exact absurd hx (by decide)
          rw [← hE, Bool.and_comm (decide _), this]
          simp
        · refine evN cx ?_
          refine evC (Ev.now _) ?_
          have : (((c == 0) == (a == 1)) && decide (0 ≤ c ∧ c ≤ 1000)) = true := by cases hz : (((c == 0) == (a == 1)) && decide (0 ≤ c ∧ c ≤ 1000)) <;> simp_all
          rw [← hE, Bool.and_comm (decide _), this]
          simp
      by_cases c2 : 0 ≤ c ∧ c ≤ 1000
      · exact evP (by simp [c2]) (fin _ (by rw [ne_eq_not]; simp [c2]))
      · exact evN (by simp; omega) (fin _ (by have : decide (0 ≤ c ∧ c ≤ 1000) = false := decide_eq_false c2; simp [this]))
    · rw [List.drop_eq_getElem_cons hi]
      rw [entPrev_next l i hi] at h
      apply evPre
      simp only [impl_InodeOk.l0]
      refine evP (by omega) ?_
      have hname := impl_name l[i].f0 (by have := hn _ (List.getElem_mem hi); omega)
      have hrd : rd_T65 l (i : Int) = l[i] := getD_at l _ i hi
      rw [hrd, nxt i l.length hi (by omega)]
      simp only [entsR, impl_fr, Option.bind_some]
      refine evP (by omega) (evP (by omega) (Ev.bind hname ?_))
      by_cases c1 : nameOk l[i].f0 = true
      · refine evP c1 ?_
        by_cases c2 : 2 ≤ l[i].f1 ∧ l[i].f1 ≤ 1000
        · refine evP (by simp [c2]) ?_
          by_cases c3 : i = 0
          · subst c3
            refine evN (by omega) (evC h ?_)
            simp [c1, c2, entPrev, upTo]
          · rw [w64 (n := (i : Int) - 1) (by omega) (by omega)]
            have hu : upTo (entPrev l i) l[i].f0 = Op.bytesLess (rd_T65 l ((i : Int) - 1)).f0.toList l[i].f0.toList := by unfold entPrev; rw [if_neg c3]; rfl
            refine evP (by omega) (evP (by omega) (evP (by omega) ?_))
            by_cases c4 : Op.bytesLess (rd_T65 l ((i : Int) - 1)).f0.toList l[i].f0.toList = true
            · refine evP c4 (evC h ?_)
              simp [c1, c2, hu, c4]
            · refine evN c4 (evC (Ev.now _) ?_)
              simp [hu, c4]
        · refine evN (by simp; omega) (evC (Ev.now _) ?_)
          have : decide (2 ≤ l[i].f1 ∧ l[i].f1 ≤ 1000) = false := decide_eq_false c2
          simp [this]
      · refine evN c1 (evC (Ev.now _) ?_)
        simp [c1]
  simpa [entPrev] using key
theorem impl_inodeOk (a b c : Int) (d : List Int) (e : List S65) (t : List S71) (he : e.length ≤ 1048576) (ht : t.length ≤ 1048576) (hen : ∀ x ∈ e, x.f0.size ≤ 1048576) (htn : ∀ x ∈ t, x.f0.size ≤ 1048576) :
    Ev (fun k => impl_InodeOk.f k a b c d e t) (inodeOk a b c d e t) := by
  unfold impl_InodeOk.f
  simp only [impl_fr, Option.bind_some]
  have no : ∀ r : Bool, r = false → Ev (fun k => impl_InodeOk.j0 k true a b c d e t) r := by
    intro r hr
    try (apply evPre; simp only [impl_InodeOk.j0])
    exact evP (by simp) (evC (Ev.now _) hr.symm)
  by_cases c1 : 1 ≤ a ∧ a ≤ 1000
  · refine evP (by simp [c1]) ?_
    by_cases c4 : d.length ≤ 100
    · refine evN (by omega) ?_
      by_cases c5 : e.length ≤ 10
      · refine evN (by omega) (Ev.bind (impl_attrs t ht htn) ?_)
        try (apply evPre; simp only [impl_InodeOk.j0])
        by_cases c6 : attrsOk t = true
        · refine evN (by simp [c6]) ?_
          refine evC (impl_inode_loop a b c d e t he hen) ?_
          unfold inodeOk entsOk
          simp only [c1, c4, c5, c6, and_self, decide_true, Bool.true_and, Bool.and_true]
          cases entsR none e <;> cases decide (0 ≤ c ∧ c ≤ 1000) <;> cases ((c == 0) == (a == 1)) <;> cases kindOk b c d e <;> rfl
        · refine evP (by simp [c6]) (evC (Ev.now _) ?_)
          simp [inodeOk, c6]
      · exact evP (by omega) (no _ (by simp [inodeOk, entsOk, c5]))
    · exact evP (by omega) (no _ (by simp [inodeOk, c4]))
  · refine evN (by simp; omega) (no _ ?_)
    have : decide (1 ≤ a ∧ a ≤ 1000) = false := decide_eq_false c1
    simp [inodeOk, this]
end Go.Proofs.YtkcfmbggdkkfeaaGreatDoor.Q
namespace Go.Proofs.YtkcfmbggdkkfeaaGreatDoor.Q
open Go.RowKit Go.Proofs.YtkcfmbggdkkfeaaGreatDoor.P Go.Proofs.YtkcfmbggdkkfeaaGreatDoorW.PrintWords Go.Proofs.YtkcfmbggdkkfeaaGreatDoorW.PrintLast Go.Proofs.YtkcfmbggdkkfeaaGreatDoorW.PrintMore

def inOk (x : S51) : Bool := inodeOk x.f0 x.f1 x.f2 x.f3 x.f4 x.f5
def above (p : Option Int) (n : Int) : Bool := match p with | none => true | some q => decide (q < n)
def tabR (nx : Int) : Option Int → List S51 → Bool
  | _, [] => true
  | p, x :: l => inOk x && decide (x.f0 < nx) && above p x.f0 && tabR nx (some x.f0) l
def tabPrev (l : List S51) (i : Nat) : Option Int := if i = 0 then none else some (rd_T51 l ((i : Int) - 1)).f0
theorem tabPrev_next (l : List S51) (i : Nat) (h : i < l.length) : tabPrev l (i + 1) = some l[i].f0 := by
  unfold tabPrev
  rw [if_neg (by omega), show (((i + 1 : Nat) : Int) - 1) = (i : Int) from by omega, rd_T51, getD_at l _ i h]
/-- What is told of an inode of a table. -/
structure InoT (x : S51) : Prop where
  d : x.f3.length ≤ 1048576
  e : x.f4.length ≤ 1048576
  t : x.f5.length ≤ 1048576
  en : ∀ y ∈ x.f4, y.f0.size ≤ 1048576
  tn : ∀ y ∈ x.f5, y.f0.size ≤ 1048576
theorem inOk_pos (x : S51) (h : inOk x = true) : 1 ≤ x.f0 := by
  unfold inOk inodeOk at h
  simp only [Bool.and_eq_true, decide_eq_true_eq] at h
  omega
/-- In a right table behind a number that is at least 1, no inode has the number 1. -/
theorem place_none (nx : Int) (l : List S51) : ∀ (q : Int) (i : Nat), 1 ≤ q → tabR nx (some q) l = true → placeR 1 l i = -1 := by
  induction l with
  | nil => intros; rfl
  | cons x l ih =>
    intro q i hq h
    simp only [tabR, above, Bool.and_eq_true, decide_eq_true_eq] at h
    rw [placeR, if_neg (by omega)]
    exact ih x.f0 (i + 1) (by omega) h.2
theorem place_head (nx : Int) (x : S51) (l : List S51) (h : tabR nx none (x :: l) = true) : placeR 1 (x :: l) 0 = if x.f0 = 1 then 0 else -1 := by
  simp only [tabR, Bool.and_eq_true, decide_eq_true_eq] at h
  rw [placeR]
  split
  · rfl
  · exact place_none nx l x.f0 1 (inOk_pos x h.1.1.1) h.2

def headOk (l : List S51) : Bool := decide ((rd_T51 l 0).f0 = 1) && ((rd_T51 l 0).f1 == 2)
theorem impl_tab_loop (l : List S51) (nx : Int) (hl : l.length ≤ 1048576) (hs : ∀ x ∈ l, InoT x) (E : Bool) (hE : Ev (fun k => (impl_InodeAt.f k l nx 1).bind fun bt => (if bt.2.2.2.2.2.2 = true then (some (bt.2.1 == 2)) else (some false))) E) :
    Ev (fun k => impl_TabOk.l0 k l (l.length : Int) 0 l nx) (tabR nx none l && E) := by
  have key : Ev (fun k => impl_TabOk.l0 k l (l.length : Int) (0 : Nat) l nx) (tabR nx (tabPrev l 0) (l.drop 0) && E) := by
    refine down (n := l.length) (P := fun i => Ev (fun k => impl_TabOk.l0 k l (l.length : Int) (i : Nat) l nx) (tabR nx (tabPrev l i) (l.drop i) && E)) ?_ (fun i hi h => ?_)
    · rw [List.drop_length]
      apply evPre
      simp only [impl_TabOk.l0, tabR]
      exact evN (by omega) (evC hE (by simp))
    · rw [List.drop_eq_getElem_cons hi]
      rw [tabPrev_next l i hi] at h
      have hT := hs l[i] (List.getElem_mem hi)
      have ho := impl_inodeOk l[i].f0 l[i].f1 l[i].f2 l[i].f3 l[i].f4 l[i].f5 hT.e hT.t hT.en hT.tn
      have hrd : rd_T51 l (i : Int) = l[i] := getD_at l _ i hi
      apply evPre
      simp only [impl_TabOk.l0, hrd]
      rw [nxt i l.length hi (by omega)]
      refine evP (by omega) (evP (by omega) (evP (by omega) (Ev.bind ho ?_)))
      by_cases c1 : inOk l[i] = true
      · refine evP c1 ?_
        by_cases c2 : l[i].f0 < nx
        · refine evN (by omega) ?_
          by_cases c3 : i = 0
          · subst c3
            refine evN (by omega) (evC h ?_)
            simp [tabR, c1, c2, tabPrev, above]
          · rw [w64 (n := (i : Int) - 1) (by omega) (by omega)]
            refine evP (by omega) (evP (by omega) (evP (by omega) ?_))
            have hu : above (tabPrev l i) l[i].f0 = decide ((rd_T51 l ((i : Int) - 1)).f0 < l[i].f0) := by unfold tabPrev; rw [if_neg c3]; rfl
            by_cases c4 : (rd_T51 l ((i : Int) - 1)).f0 < l[i].f0
            · refine evN (by omega) (evC h ?_)
              simp [tabR, c1, c2, hu, c4]
            · refine evP (by omega) (evC (Ev.now _) ?_)
              simp [tabR, hu, c4]
        · refine evP (by omega) (evC (Ev.now _) ?_)
          simp [tabR, c2]
      · refine evN c1 (evC (Ev.now _) ?_)
        simp [tabR, c1]
  simpa [tabPrev] using key
theorem copy_inode (x : S51) (h : InoT x) : impl_copyInode.f x.f0 x.f1 x.f2 x.f3 x.f4 x.f5 = some (x.f0, x.f1, x.f2, x.f3, x.f4, x.f5) := by
  have hd := h.d; have he := h.e; have ht := h.t
  have a : slices_Clone_byte_byte.f x.f3 = some x.f3 := by unfold slices_Clone_byte_byte.f; simp; omega
  have b : slices_Clone_Ent.f x.f4 = some x.f4 := by unfold slices_Clone_Ent.f; simp; omega
  have c : slices_Clone_Attr.f x.f5 = some x.f5 := by unfold slices_Clone_Attr.f; simp; omega
  unfold impl_copyInode.f
  rw [a, Option.bind_some, b, Option.bind_some, c, Option.bind_some]
def tabOk (l : List S51) (nx : Int) : Bool := decide (1 ≤ l.length ∧ l.length ≤ 30) && decide (2 ≤ nx ∧ nx ≤ 1000) && (tabR nx none l && headOk l)
theorem placeR_range (ino : Int) (l : List S51) : ∀ i : Nat, placeR ino l i = -1 ∨ ((i : Int) ≤ placeR ino l i ∧ placeR ino l i < i + l.length) := by
  induction l with
  | nil => intro i; exact .inl rfl
  | cons x l ih =>
    intro i
    rw [placeR]
    split
    · right; simp only [List.length_cons]; omega
    · rcases ih (i + 1) with h | h
      · exact .inl h
      · right; simp only [List.length_cons]; omega
def atOk (l : List S51) : Bool := if placeR 1 l 0 < 0 then false else ((rd_T51 l (placeR 1 l 0)).f1 == 2)
theorem at_one (l : List S51) (nx : Int) (hl : l.length ≤ 1048576) (hs : ∀ x ∈ l, InoT x) :
    Ev (fun k => (impl_InodeAt.f k l nx 1).bind fun bt => (if bt.2.2.2.2.2.2 = true then (some (bt.2.1 == 2)) else (some false))) (atOk l) := by
  unfold impl_InodeAt.f impl_placeOf.f atOk
  rw [if_pos (by omega)]
  simp only [Option.bind_some]
  by_cases c : placeR 1 l 0 < 0
  · simp only [if_pos c, Option.bind_some]
    exact Ev.now _
  · simp only [if_neg c]
    have hr := placeR_range 1 l 0
    obtain ⟨n, hn⟩ : ∃ n : Nat, placeR 1 l 0 = n := ⟨(placeR 1 l 0).toNat, by omega⟩
    rw [hn] at hr c ⊢
    have hlt : n < l.length := by omega
    have hrd : rd_T51 l (n : Int) = l[n] := getD_at l _ n hlt
    simp only [hrd, copy_inode l[n] (hs _ (List.getElem_mem hlt)), Option.bind_some]
    rw [if_pos (by omega), if_pos (by omega)]
    simp only [Option.bind_some, if_true]
    exact Ev.now _
theorem at_head (nx : Int) (l : List S51) (hp : 0 < l.length) : (tabR nx none l && atOk l) = (tabR nx none l && headOk l) := by
  cases h : tabR nx none l with
  | false => rfl
  | true =>
    cases l with
    | nil => simp at hp
    | cons x l =>
      have hh := place_head nx x l h
      simp only [Bool.true_and, atOk, headOk, hh]
      have h0 : rd_T51 (x :: l) 0 = x := rfl
      by_cases c : x.f0 = 1
      · simp [c, h0]
      · simp [c, h0]
theorem impl_tabOk (l : List S51) (nx : Int) (hl : l.length ≤ 1048576) (hs : ∀ x ∈ l, InoT x) : Ev (fun k => impl_TabOk.f k l nx) (tabOk l nx) := by
  unfold impl_TabOk.f tabOk
  simp only [impl_fr, Option.bind_some]
  have no : ∀ r : Bool, r = false → Ev (fun k => impl_TabOk.j0 k true l nx) r := by
    intro r hr
    apply evPre
    simp only [impl_TabOk.j0]
    exact evP (by simp) (evC (Ev.now _) hr.symm)
  by_cases c1 : l.length ≤ 30
  · refine evN (by omega) ?_
    by_cases c2 : 2 ≤ nx ∧ nx ≤ 1000
    · apply evPre
      simp only [impl_TabOk.j0]
      refine evN (by simp [c2]) (evC (impl_tab_loop l nx hl hs _ (at_one l nx hl hs)) ?_)
      by_cases c0 : 1 ≤ l.length
      · rw [at_head nx l c0]; simp [c0, c1, c2]
      · obtain rfl : l = [] := List.eq_nil_of_length_eq_zero (by omega)
        simp [tabR, atOk, placeR]
    · rw [show decide (2 ≤ nx ∧ nx ≤ 1000) = false from decide_eq_false c2]
      exact no _ (by simp)
  · refine evP (by omega) (no _ ?_)
    rw [show decide (1 ≤ l.length ∧ l.length ≤ 30) = false from decide_eq_false (by omega)]
    rfl
end Go.Proofs.YtkcfmbggdkkfeaaGreatDoor.Q
namespace Go.Proofs.YtkcfmbggdkkfeaaGreatDoor.Q
open Go.RowKit Go.Proofs.YtkcfmbggdkkfeaaGreatDoor.P Go.Proofs.YtkcfmbggdkkfeaaGreatDoorW.PrintWords Go.Proofs.YtkcfmbggdkkfeaaGreatDoorW.PrintLast Go.Proofs.YtkcfmbggdkkfeaaGreatDoorW.PrintMore

def entLinks (n : Int) (e : List S65) : Nat := (e.filter fun x => decide (x.f1 = n)).length
def inoLinks (n : Int) (x : S51) : Nat := if x.f1 = 2 then entLinks n x.f4 else 0
def linksOf (n : Int) (l : List S51) : Nat := (l.map (inoLinks n)).sum
theorem entLinks_drop (n : Int) (e : List S65) (j : Nat) (hj : j < e.length) : entLinks n (e.drop j) = (if e[j].f1 = n then 1 else 0) + entLinks n (e.drop (j + 1)) := by
  unfold entLinks
  rw [List.drop_eq_getElem_cons hj, List.filter_cons]
  by_cases h : e[j].f1 = n
  · rw [if_pos (by simpa using h), if_pos h, List.length_cons]; omega
  · rw [if_neg (by simpa using h), if_neg h]; omega
theorem linksOf_drop (n : Int) (l : List S51) (j : Nat) (hj : j < l.length) : linksOf n (l.drop j) = inoLinks n l[j] + linksOf n (l.drop (j + 1)) := by
  unfold linksOf; rw [List.drop_eq_getElem_cons hj, List.map_cons, List.sum_cons]
theorem impl_links (L : List S51) (nx n : Int) (hl : L.length ≤ 1048576) (hs : ∀ x ∈ L, x.f4.length ≤ 1048576) (hu : linksOf n L ≤ 4611686018427387904) : Ev (fun k => impl_LinksOf.f k L nx n) (linksOf n L : Int) := by
  have key : ∀ acc : Nat, acc + linksOf n (L.drop 0) ≤ 4611686018427387904 → Ev (fun k => impl_LinksOf.l0 k n (acc : Int) L (L.length : Int) (0 : Nat)) ((acc + linksOf n (L.drop 0) : Nat) : Int) := by
    refine down (n := L.length) (P := fun i => ∀ acc : Nat, acc + linksOf n (L.drop i) ≤ 4611686018427387904 → Ev (fun k => impl_LinksOf.l0 k n (acc : Int) L (L.length : Int) (i : Nat)) ((acc + linksOf n (L.drop i) : Nat) : Int)) ?_ (fun i hi ih => ?_)
    · intro acc _
      rw [List.drop_length]
      apply evPre
      simp only [impl_LinksOf.l0]
      exact evN (by omega) (evC (Ev.now _) (by simp [linksOf]))
    · intro acc hb
      rw [linksOf_drop n L i hi] at hb ⊢
      have hx := hs _ (List.getElem_mem hi)
      have ih := ih (acc + inoLinks n L[i]) (by omega)
      rw [← nxt i L.length hi (by omega)] at ih
      have ih : Ev (fun k => impl_LinksOf.l0 k n ((acc + inoLinks n L[i] : Nat) : Int) L (L.length : Int) (wrap64 ((i : Int) + 1))) ((acc + (inoLinks n L[i] + linksOf n (L.drop (i + 1))) : Nat) : Int) := evC ih (by omega)
      generalize ((acc + (inoLinks n L[i] + linksOf n (L.drop (i + 1))) : Nat) : Int) = R at ih ⊢
      apply evPre
      have hrd : rd_T51 L (i : Int) = L[i] := getD_at L _ i hi
      simp only [impl_LinksOf.l0, hrd]
      refine evP (by omega) ?_
      refine evP (by omega) (evP (by omega) ?_)
      by_cases hk : L[i].f1 = 2
      · unfold inoLinks at ih hb
        rw [if_pos hk] at ih hb
        refine evP hk ?_
        have inner : ∀ acc : Nat, acc + entLinks n (L[i].f4.drop 0) ≤ 4611686018427387904 → Ev (fun k => impl_LinksOf.l0 k n ((acc + entLinks n (L[i].f4.drop 0) : Nat) : Int) L (L.length : Int) (wrap64 ((i : Int) + 1))) R → Ev (fun k => impl_LinksOf.l1 k n (acc : Int) L (L.length : Int) i L[i].f4 (L[i].f4.length : Int) (0 : Nat)) R := by
          refine down (n := L[i].f4.length) (P := fun j => ∀ acc : Nat, acc + entLinks n (L[i].f4.drop j) ≤ 4611686018427387904 → Ev (fun k => impl_LinksOf.l0 k n ((acc + entLinks n (L[i].f4.drop j) : Nat) : Int) L (L.length : Int) (wrap64 ((i : Int) + 1))) R → Ev (fun k => impl_LinksOf.l1 k n (acc : Int) L (L.length : Int) i L[i].f4 (L[i].f4.length : Int) (j : Nat)) R) ?_ (fun j hj ihj => ?_)
          · intro acc _ h
            rw [List.drop_length] at h
            apply evPre
            simp only [impl_LinksOf.l1]
            exact evN (by omega) (by simpa [entLinks] using h)
          · intro acc hb h
            rw [entLinks_drop n _ j hj] at hb h
            apply evPre
            simp only [impl_LinksOf.l1]
            have hrj : rd_T65 L[i].f4 (j : Int) = L[i].f4[j] := getD_at L[i].f4 _ j hj
            refine evP (by omega) (evP (by omega) (evP (by omega) ?_))
            rw [hrj, nxt j L[i].f4.length hj (by omega)]
            by_cases he : L[i].f4[j].f1 = n
            · rw [if_pos he] at hb h
              refine evP he ?_
              rw [w64 (n := (acc : Int) + 1) (by omega) (by omega)]
              have := ihj (acc + 1) (by omega) (by rw [show acc + 1 + entLinks n (L[i].f4.drop (j + 1)) = acc + (1 + entLinks n (L[i].f4.drop (j + 1))) from by omega]; exact h)
              simpa using this
            · rw [if_neg he] at hb h
              refine evN he (ihj acc (by omega) ?_)
              simpa using h
        exact inner acc (by simp only [List.drop_zero]; omega) (by simpa using ih)
      · unfold inoLinks at ih
        rw [if_neg hk] at ih
        exact evN hk (by simpa using ih)
  have := key 0 (by simpa using hu)
  simpa [impl_LinksOf.f] using this
end Go.Proofs.YtkcfmbggdkkfeaaGreatDoor.Q
namespace Go.Proofs.YtkcfmbggdkkfeaaGreatDoor.Q
open Go.RowKit Go.Proofs.YtkcfmbggdkkfeaaGreatDoor.P Go.Proofs.YtkcfmbggdkkfeaaGreatDoorW.PrintWords Go.Proofs.YtkcfmbggdkkfeaaGreatDoorW.PrintLast Go.Proofs.YtkcfmbggdkkfeaaGreatDoorW.PrintMore

end Go.Proofs.YtkcfmbggdkkfeaaGreatDoor.Q
namespace Go.Proofs.YtkcfmbggdkkfeaaGreatDoor.Q
open Go.RowKit Go.Proofs.YtkcfmbggdkkfeaaGreatDoor.P Go.Proofs.YtkcfmbggdkkfeaaGreatDoorW.PrintWords Go.Proofs.YtkcfmbggdkkfeaaGreatDoorW.PrintLast Go.Proofs.YtkcfmbggdkkfeaaGreatDoorW.PrintMore

end Go.Proofs.YtkcfmbggdkkfeaaGreatDoor.Q
namespace Go.Proofs.YtkcfmbggdkkfeaaGreatDoor.Q
open Go.RowKit Go.Proofs.YtkcfmbggdkkfeaaGreatDoor.P Go.Proofs.YtkcfmbggdkkfeaaGreatDoorW.PrintWords Go.Proofs.YtkcfmbggdkkfeaaGreatDoorW.PrintLast Go.Proofs.YtkcfmbggdkkfeaaGreatDoorW.PrintMore

/-- A table's inodes are small. -/
structure InoA (x : S51) : Prop where
  d : x.f3.length ≤ 1048576
  e : x.f4.length ≤ 1048576
  t : x.f5.length ≤ 1048576
theorem copy_ino (x : S51) (h : InoA x) : impl_copyInode.f x.f0 x.f1 x.f2 x.f3 x.f4 x.f5 = some (x.f0, x.f1, x.f2, x.f3, x.f4, x.f5) := by
  have hd := h.d; have he := h.e; have ht := h.t
  have a : slices_Clone_byte_byte.f x.f3 = some x.f3 := by unfold slices_Clone_byte_byte.f; simp; omega
  have b : slices_Clone_Ent.f x.f4 = some x.f4 := by unfold slices_Clone_Ent.f; simp; omega
  have c : slices_Clone_Attr.f x.f5 = some x.f5 := by unfold slices_Clone_Attr.f; simp; omega
  unfold impl_copyInode.f
  rw [a, Option.bind_some, b, Option.bind_some, c, Option.bind_some]
end Go.Proofs.YtkcfmbggdkkfeaaGreatDoor.Q
namespace Go.Proofs.YtkcfmbggdkkfeaaGreatDoor.Q
open Go.RowKit Go.Proofs.YtkcfmbggdkkfeaaGreatDoor.P Go.Proofs.YtkcfmbggdkkfeaaGreatDoorW.PrintWords Go.Proofs.YtkcfmbggdkkfeaaGreatDoorW.PrintLast Go.Proofs.YtkcfmbggdkkfeaaGreatDoorW.PrintMore

theorem place_range (ino : Int) (l : List S51) : ∀ i : Nat, placeR ino l i = -1 ∨ ((i : Int) ≤ placeR ino l i ∧ placeR ino l i < i + l.length) := by
  induction l with
  | nil => intro i; exact .inl rfl
  | cons x l ih =>
    intro i
    rw [placeR]
    split
    · right; simp only [List.length_cons]; omega
    · rcases ih (i + 1) with h | h
      · exact .inl h
      · right; simp only [List.length_cons]; omega
end Go.Proofs.YtkcfmbggdkkfeaaGreatDoor.Q
namespace Go.Proofs.YtkcfmbggdkkfeaaGreatDoor.Q
open Go.RowKit Go.Proofs.YtkcfmbggdkkfeaaGreatDoor.P Go.Proofs.YtkcfmbggdkkfeaaGreatDoorW.PrintWords Go.Proofs.YtkcfmbggdkkfeaaGreatDoorW.PrintLast Go.Proofs.YtkcfmbggdkkfeaaGreatDoorW.PrintMore

/-- The inode with this number, or an empty one; whether there is one. -/
def inoAt (l : List S51) (ino : Int) : S51 := if placeR ino l 0 < 0 then ⟨0, 0, 0, [], [], []⟩ else rd_T51 l (placeR ino l 0)
def isAt (l : List S51) (ino : Int) : Bool := decide (0 ≤ placeR ino l 0)
theorem inoAt_small (l : List S51) (ino : Int) (hs : ∀ x ∈ l, InoA x) : InoA (inoAt l ino) := by
  unfold inoAt
  split
  · exact ⟨by simp, by simp, by simp⟩
  · rcases place_range ino l 0 with h | h
    · omega
    · obtain ⟨n, hn⟩ : ∃ n : Nat, placeR ino l 0 = n := ⟨(placeR ino l 0).toNat, by omega⟩
      rw [hn] at h ⊢
      have hlt : n < l.length := by omega
      have hrd : rd_T51 l (n : Int) = l[n] := getD_at l _ n hlt
      rw [hrd]
      exact hs _ (List.getElem_mem hlt)
theorem impl_inodeAt (l : List S51) (nx ino : Int) (hl : l.length ≤ 1048576) (hs : ∀ x ∈ l, InoA x) :
    Ev (fun k => impl_InodeAt.f k l nx ino) ((inoAt l ino).f0, (inoAt l ino).f1, (inoAt l ino).f2, (inoAt l ino).f3, (inoAt l ino).f4, (inoAt l ino).f5, isAt l ino) := by
  have hc := inoAt_small l ino hs
  have hr := place_range ino l 0
  unfold impl_InodeAt.f impl_placeOf.f
  refine Ev.bind (evP (by omega) (Ev.now _)) ?_
  by_cases c : placeR ino l 0 < 0
  · refine evP c (evC (Ev.now _) ?_)
    simp only [inoAt, isAt, if_pos c, show decide (0 ≤ placeR ino l 0) = false from decide_eq_false (by omega)]
  · have hi : inoAt l ino = rd_T51 l (placeR ino l 0) := by simp only [inoAt, if_neg c]
    rw [hi] at hc ⊢
    refine evN c (evP (by omega) (evP (by omega) ?_))
    simp only [copy_ino _ hc, Option.bind_some]
    refine evC (Ev.now _) ?_
    simp only [isAt, show decide (0 ≤ placeR ino l 0) = true from decide_eq_true (by omega)]
end Go.Proofs.YtkcfmbggdkkfeaaGreatDoor.Q
namespace Go.Proofs.YtkcfmbggdkkfeaaGreatDoor.Q
open Go.RowKit Go.Proofs.YtkcfmbggdkkfeaaGreatDoor.P Go.Proofs.YtkcfmbggdkkfeaaGreatDoorW.PrintWords Go.Proofs.YtkcfmbggdkkfeaaGreatDoorW.PrintLast Go.Proofs.YtkcfmbggdkkfeaaGreatDoorW.PrintMore

def entOf (name : ByteArray) : List S65 → Int
  | [] => 0
  | e :: l => if e.f0.toList = name.toList then e.f1 else entOf name l
theorem impl_entOf (a b c : Int) (d : List Int) (e : List S65) (t : List S71) (name : ByteArray) (he : e.length ≤ 9223372036854775807) : Ev (fun k => impl_EntOf.f k a b c d e t name) (entOf name e) := by
  unfold impl_EntOf.f
  refine ev_fold (fun k i => impl_EntOf.l0 k name e (e.length : Int) i) e (entOf name) ?_ (fun i hi h => ?_)
  · apply evPre
    simp only [impl_EntOf.l0]
    exact evN (by omega) (Ev.now _)
  · apply evPre
    simp only [impl_EntOf.l0, rd_T65, getD_at e _ i hi, entOf]
    refine evP (by omega) (evP (by omega) (evP (by omega) ?_))
    rw [nxt i e.length hi he]
    exact evI (fun _ => Ev.now _) (fun _ => h)
end Go.Proofs.YtkcfmbggdkkfeaaGreatDoor.Q
namespace Go.Proofs.YtkcfmbggdkkfeaaGreatDoor.Q
open Go.RowKit Go.Proofs.YtkcfmbggdkkfeaaGreatDoor.P Go.Proofs.YtkcfmbggdkkfeaaGreatDoorW.PrintWords Go.Proofs.YtkcfmbggdkkfeaaGreatDoorW.PrintLast Go.Proofs.YtkcfmbggdkkfeaaGreatDoorW.PrintMore

theorem nxtJ (i : Nat) (n : Nat) (hi : i < n) (hn : n ≤ 9223372036854775807) : wrap64 ((i : Int) + 1) = ((i + 1 : Nat) : Int) := by
  rw [w64 (by omega) (by omega)]; omega
theorem rdS (l : List ByteArray) (i : Nat) (h : i < l.length) : rdOf ByteArray.empty l (i : Int) = l[i] := getD_at l _ i h
def strSz (l : List ByteArray) : Nat := (l.map ByteArray.size).sum
theorem strSz_mem (l : List ByteArray) : ∀ x ∈ l, x.size ≤ strSz l := by
  induction l with
  | nil => intro x hx; cases hx
  | cons y l ih =>
    intro x hx
    unfold strSz at ih ⊢
    rw [List.map_cons, List.sum_cons]
    rcases List.mem_cons.1 hx with rfl | hx
    · omega
    · have := ih x hx; omega
theorem badR_ev (l : List ByteArray) (hs : ∀ x ∈ l, x.size ≤ 1048576) : ∀ i : Nat, ∃ r, Ev (fun k => badR k l i) r ∧ (decide (0 ≤ r)) = !(l.all nameOk) := by
  induction l with
  | nil => intro i; exact ⟨-1, Ev.now _, rfl⟩
  | cons x l ih =>
    intro i
    have hx := impl_name x (by have := hs x (List.mem_cons_self ..); omega)
    by_cases c : nameOk x = true
    · obtain ⟨r, h1, h2⟩ := ih (fun y hy => hs y (List.mem_cons_of_mem _ hy)) (i + 1)
      refine ⟨r, ?_, by rw [h2, List.all_cons, c, Bool.true_and]⟩
      simp only [badR]
      exact Ev.bind hx (evP c h1)
    · refine ⟨(i : Int), ?_, by simp [c]⟩
      simp only [badR]
      exact Ev.bind hx (evN c (Ev.now _))
def goodPath (l : List ByteArray) : Bool := l.all nameOk && decide (l.length ≤ 30)
theorem impl_names (l : List ByteArray) (hs : ∀ x ∈ l, x.size ≤ 1048576) : Ev (fun k => impl_namesOk.f k l) (goodPath l) := by
  unfold impl_namesOk.f goodPath
  by_cases c : l.length ≤ 30
  · obtain ⟨r, h1, h2⟩ := badR_ev l hs 0
    refine evP c (Ev.bind h1 (evC (Ev.now _) ?_))
    rw [h2]; simp [c]
  · exact evN c (evC (Ev.now _) (by simp [c]))
end Go.Proofs.YtkcfmbggdkkfeaaGreatDoor.Q
namespace Go.Proofs.YtkcfmbggdkkfeaaGreatDoor.Q
open Go.RowKit Go.Proofs.YtkcfmbggdkkfeaaGreatDoor.P Go.Proofs.YtkcfmbggdkkfeaaGreatDoorW.PrintWords Go.Proofs.YtkcfmbggdkkfeaaGreatDoorW.PrintLast Go.Proofs.YtkcfmbggdkkfeaaGreatDoorW.PrintMore

def consPre (q : List UInt8) : List (List UInt8) → List (List UInt8)
  | [] => [q]
  | p :: ps => (q ++ p) :: ps
/-- The parts between slashes. -/
def parts : List UInt8 → List (List UInt8)
  | [] => [[]]
  | b :: l => if b = 47 then [] :: parts l else consPre [b] (parts l)
theorem parts_ne (l : List UInt8) : parts l ≠ [] := by
  cases l with
  | nil => simp [parts]
  | cons b l =>
    rw [parts]
    split
    · simp
    · cases parts l <;> simp [consPre]
theorem splitK_ne (k : Nat) (b : UInt8) (l : List UInt8) (h : b ≠ 47) : Lib.splitK [47] 0 k (b :: l) = consPre [b] (Lib.splitK [47] 0 k l) := by
  cases k with
  | zero => rfl
  | succ k =>
    have hp : ([47] : List UInt8).isPrefixOf (b :: l) = false := by simp [List.isPrefixOf, Ne.symm h]
    have hix : Lib.index (b :: l) [47] = if Lib.index l [47] == -1 then -1 else Lib.index l [47] + 1 := by rw [Lib.index, hp]; simp
    by_cases hm : Lib.index l [47] = -1
    · rw [Lib.splitK, Lib.splitK, hix, hm]; rfl
    · have hge := Lib.index_ge l [47]
      obtain ⟨j, hj⟩ : ∃ j : Nat, Lib.index l [47] = j := ⟨(Lib.index l [47]).toNat, by omega⟩
      have hix' : Lib.index (b :: l) [47] = ((j + 1 : Nat) : Int) := by rw [hix, if_neg (fun e => hm (beq_iff_eq.1 e)), hj]; omega
      have n1 : ¬ (((j + 1 : Nat) : Int) == -1) = true := fun e => by have := beq_iff_eq.1 e; omega
      have n2 : ¬ ((j : Int) == -1) = true := fun e => by have := beq_iff_eq.1 e; omega
      rw [Lib.splitK, Lib.splitK, hix', hj, if_neg n1, if_neg n2, Int.toNat_natCast, Int.toNat_natCast]
      simp [consPre]
theorem splitK_eq (k : Nat) (l : List UInt8) : Lib.splitK [47] 0 (k + 1) (47 :: l) = [] :: Lib.splitK [47] 0 k l := by
  have hix : Lib.index (47 :: l) [47] = 0 := by rw [Lib.index]; simp [List.isPrefixOf]
  rw [Lib.splitK, hix, if_neg (by decide)]
  simp
theorem splitK_parts (l : List UInt8) : Lib.splitK [47] 0 (Lib.count l [47]) l = parts l := by
  induction l with
  | nil => rw [Lib.count_miss (by simp [Lib.index])]; rfl
  | cons b l ih =>
    rw [parts]
    by_cases h : b = 47
    · subst h
      rw [if_pos rfl, Lib.count_cons_eq, Nat.add_comm, splitK_eq, ih]
    · rw [if_neg h, Lib.count_cons_ne b 47 l h, splitK_ne _ _ _ h, ih]
def mkB (l : List UInt8) : ByteArray := ⟨l.toArray⟩
theorem mkB_data (s : ByteArray) : mkB s.data.toList = s := by simp [mkB]
theorem mkB_size (l : List UInt8) : (mkB l).size = l.length := by rw [← data_length]; simp [mkB]
theorem splitB_parts (s : ByteArray) : Lib.splitB ⟨#[47]⟩ 0 (Lib.countB s ⟨#[47]⟩) s = (parts s.data.toList).map mkB := by
  have h := Lib.splitB_data ⟨#[47]⟩ 0 (Lib.countB s ⟨#[47]⟩) s
  have hc : Lib.countB s ⟨#[47]⟩ = Lib.count s.data.toList [47] := rfl
  rw [show (⟨#[47]⟩ : ByteArray).data.toList = [47] from rfl, hc, splitK_parts] at h
  rw [hc, ← h, List.map_map]
  conv => lhs; rw [← List.map_id (Lib.splitB _ _ _ _)]
  apply List.map_congr_left
  intro x _
  exact (mkB_data x).symm
theorem parts_sum (l : List UInt8) : ∀ p ∈ parts l, p.length ≤ l.length := by
  induction l with
  | nil => intro p hp; simp [parts] at hp; subst hp; simp
  | cons b l ih =>
    intro p hp
    rw [parts] at hp
    split at hp
    · rcases List.mem_cons.1 hp with rfl | hp
      · simp
      · have := ih p hp; simp; omega
    · cases hX : parts l with
      | nil => exact absurd hX (parts_ne l)
      | cons q X =>
        rw [hX] at hp ih
        rcases List.mem_cons.1 hp with rfl | hp
        · have := ih q (List.mem_cons_self ..); simp; omega
        · have := ih p (List.mem_cons_of_mem _ hp); simp; omega
theorem parts_len (l : List UInt8) : (parts l).length ≤ l.length + 1 := by
  induction l with
  | nil => simp [parts]
  | cons b l ih =>
    rw [parts]
    split
    · simp; omega
    · cases hX : parts l with
      | nil => simp [consPre]
      | cons q X => rw [hX] at ih; simp [consPre] at ih ⊢; omega
/-- The names of a path, and whether it is one. -/
def splitP (s : ByteArray) : List ByteArray × Bool :=
  if s.toList = ([47] : List UInt8) then ([], true) else
  match (parts s.data.toList).map mkB with
  | [] => ([], false)
  | x :: l => if x.toList = [] ∧ l ≠ [] ∧ goodPath l = true then (l, true) else ([], false)
theorem impl_split (s : ByteArray) (hs : s.size ≤ 1048576) : Ev (fun k => impl_SplitPath.f k s) (splitP s) := by
  unfold impl_SplitPath.f splitP
  refine evI (fun _ => Ev.now _) (fun _ => ?_)
  have h0 : strings_Split.f s ⟨#[47]⟩ = some ((parts s.data.toList).map mkB) := by
    unfold strings_Split.f
    rw [if_pos ⟨by omega, by decide⟩, splitB_parts]
  simp only [h0, Option.bind_some]
  have hps := parts_sum s.data.toList
  have hsz : s.data.toList.length = s.size := data_length s
  have hpl := parts_len s.data.toList
  cases hX : parts s.data.toList with
  | nil => exact absurd hX (parts_ne _)
  | cons p ps =>
    rw [hX] at hps hpl
    rw [List.map_cons]
    refine evP (by rw [List.length_cons]; omega) ?_
    have hr : rdOf ByteArray.empty (mkB p :: ps.map mkB) 0 = mkB p := rfl
    simp only [hr]
    by_cases c : (mkB p).toList = []
    · refine evP c ?_
      cases hq : ps with
      | nil => exact evP (by simp) (evC (Ev.now _) (by simp))
      | cons q qs =>
        rw [← hq]
        have hne : ps.map mkB ≠ [] := by rw [hq]; simp
        have hl : 0 < ps.length := by rw [hq]; simp
        refine evN (by simp; omega) (evP (by simp; omega) ?_)
        have hn := impl_names (ps.map mkB) (by
          intro x hx
          obtain ⟨y, hy, rfl⟩ := List.mem_map.1 hx
          rw [mkB_size]
          have := hps y (List.mem_cons_of_mem _ hy)
          omega)
        refine Ev.bind hn ?_
        by_cases g : goodPath (ps.map mkB) = true
        · exact evP g (evC (Ev.now _) (by rw [if_pos ⟨c, hne, g⟩]; rfl))
        · exact evN g (evC (Ev.now _) (by rw [if_neg (fun h => g h.2.2)]))
    · exact evN c (evC (Ev.now _) (by rw [if_neg (fun h => c h.1)]))
end Go.Proofs.YtkcfmbggdkkfeaaGreatDoor.Q
namespace Go.Proofs.YtkcfmbggdkkfeaaGreatDoor.Q
open Go.RowKit Go.Proofs.YtkcfmbggdkkfeaaGreatDoor.P Go.Proofs.YtkcfmbggdkkfeaaGreatDoorW.PrintWords Go.Proofs.YtkcfmbggdkkfeaaGreatDoorW.PrintLast Go.Proofs.YtkcfmbggdkkfeaaGreatDoorW.PrintMore

theorem app_nil (b : ByteArray) : b ++ (⟨#[]⟩ : ByteArray) = b := ByteArray.ext (by rw [ByteArray.data_append]; simp)
/-- The path of these names. -/
def pathB : List ByteArray → ByteArray
  | [] => ⟨#[]⟩
  | x :: l => (⟨#[47]⟩ ++ x) ++ pathB l
theorem pathB_size (l : List ByteArray) : (pathB l).size = l.length + strSz l := by
  induction l with
  | nil => rfl
  | cons x l ih =>
    rw [pathB, ByteArray.size_append, ByteArray.size_append, ih]
    have : (⟨#[47]⟩ : ByteArray).size = 1 := rfl
    simp only [strSz, List.map_cons, List.sum_cons, List.length_cons] at *
    omega
theorem map_sum_le (l : List (List UInt8)) : strSz (l.map mkB) = (l.map List.length).sum := by
  unfold strSz
  rw [List.map_map]
  exact congrArg List.sum (List.map_congr_left fun x _ => mkB_size x)
theorem parts_tot (l : List UInt8) : ((parts l).map List.length).sum ≤ l.length := by
  induction l with
  | nil => simp [parts]
  | cons b l ih =>
    rw [parts]
    split
    · simp; omega
    · cases hX : parts l with
      | nil => exact absurd hX (parts_ne l)
      | cons q X => rw [hX] at ih; simp [consPre] at ih ⊢; omega
theorem splitP_size (s : ByteArray) : (splitP s).1.length ≤ s.size ∧ strSz (splitP s).1 ≤ s.size := by
  have h1 := parts_len s.data.toList
  have h2 := parts_tot s.data.toList
  rw [data_length] at h1 h2
  unfold splitP
  split
  · simp [strSz]
  · split
    · simp [strSz]
    · rename_i x l hX
      split
      · cases hP : parts s.data.toList with
        | nil => exact absurd hP (parts_ne _)
        | cons p ps =>
          rw [hP] at hX h1 h2
          simp only [List.map_cons, List.cons.injEq] at hX
          obtain ⟨_, rfl⟩ := hX
          simp only [List.length_map, map_sum_le]
          simp only [List.map_cons, List.sum_cons, List.length_cons] at h1 h2
          omega
      · simp [strSz]
theorem strSz_take (l : List ByteArray) (n : Nat) : strSz (l.take n) ≤ strSz l := by
  induction l generalizing n with
  | nil => simp
  | cons x l ih =>
    cases n with
    | zero => simp [strSz]
    | succ n => have := ih n; simp [strSz] at this ⊢; omega
/-- The path of a parent. -/
def joinQ (l : List ByteArray) : ByteArray := if l.length = 0 then ⟨#[47]⟩ else if goodPath l = true then pathB l else ⟨#[]⟩
theorem name_no (s : ByteArray) (h : nameOk s = true) : (∀ b ∈ s.data.toList, b ≠ 47) ∧ 1 ≤ s.size ∧ s.size ≤ 14 := by
  unfold nameOk nameEnd at h
  simp only [Bool.and_eq_true, decide_eq_true_eq] at h
  refine ⟨fun b hb e => ?_, h.2.1.1⟩
  have := List.all_eq_true.1 h.1 (b.toNat : Int) (by unfold bytesOf; exact List.mem_map.2 ⟨b, hb, rfl⟩)
  subst e
  exact absurd this (by decide)
theorem joinQ_size (l : List ByteArray) (hg : goodPath l = true) : (joinQ l).size = max 1 (l.length + strSz l) := by
  unfold joinQ
  by_cases c : l.length = 0
  · rw [if_pos c, List.eq_nil_of_length_eq_zero c]; rfl
  · rw [if_neg c, if_pos hg, pathB_size]; omega
end Go.Proofs.YtkcfmbggdkkfeaaGreatDoor.Q
namespace Go.Proofs.YtkcfmbggdkkfeaaGreatDoor.Q
open Go.RowKit Go.Proofs.YtkcfmbggdkkfeaaGreatDoor.P Go.Proofs.YtkcfmbggdkkfeaaGreatDoorW.PrintWords Go.Proofs.YtkcfmbggdkkfeaaGreatDoorW.PrintLast Go.Proofs.YtkcfmbggdkkfeaaGreatDoorW.PrintMore

/-- Where names lead to, from a number on, and a code. -/
def walkR (T : List S51) : List ByteArray → Int → Int × Int
  | [], ino => (ino, 0)
  | n :: l, ino => if isAt T ino = true then (if (inoAt T ino).f1 = 2 then (if entOf n (inoAt T ino).f4 = 0 then (0, 2) else walkR T l (entOf n (inoAt T ino).f4)) else (0, 3)) else (0, 2)
def walkP (T : List S51) (s : ByteArray) : Int × Int := if (splitP s).2 = true then walkR T (splitP s).1 1 else (0, 1)
theorem ev_names {γ : Type} (L : Nat → Int → Int → Option γ) (xs : List ByteArray) (F : List ByteArray → Int → γ) (h1 : ∀ ino, Ev (fun k => L k ino (xs.length : Nat)) (F [] ino))
    (h2 : ∀ (i : Nat) (hi : i < xs.length) (ino : Int), (∀ ino', Ev (fun k => L k ino' ((i + 1 : Nat) : Int)) (F (xs.drop (i + 1)) ino')) → Ev (fun k => L k ino (i : Nat)) (F (xs[i] :: xs.drop (i + 1)) ino)) (ino : Int) : Ev (fun k => L k ino 0) (F xs ino) := by
  have key : ∀ m i : Nat, xs.length - i = m → i ≤ xs.length → ∀ ino, Ev (fun k => L k ino (i : Nat)) (F (xs.drop i) ino) := by
    intro m
    induction m with
    | zero =>
      intro i hm hi ino
      obtain rfl : i = xs.length := by omega
      rw [List.drop_length]
      exact h1 ino
    | succ m ih =>
      intro i hm hi ino
      rw [List.drop_eq_getElem_cons (by omega)]
      exact h2 i (by omega) ino (ih (i + 1) (by omega) (by omega))
  simpa using key xs.length 0 (by omega) (by omega) ino
theorem impl_walk (T : List S51) (nx : Int) (s : ByteArray) (hT : T.length ≤ 1048576) (hs : ∀ x ∈ T, InoA x) (h : s.size ≤ 1048576) : Ev (fun k => impl_Walk.f k T nx s) (walkP T s) := by
  unfold impl_Walk.f walkP
  refine Ev.bind (impl_split s h) ?_
  have hl := (splitP_size s).1
  generalize splitP s = p at *
  refine evI (fun _ => ?_) (fun _ => Ev.now _)
  refine ev_names (fun k ino i => impl_Walk.l0 k ino p.1 p.1.length i T nx) p.1 (walkR T) (fun ino => ?_) (fun i hi ino ih => ?_) 1
  · apply evPre
    simp only [impl_Walk.l0]
    exact evN (by omega) (Ev.now _)
  · have hx := inoAt_small T ino hs
    apply evPre
    simp only [impl_Walk.l0, walkR]
    rw [nxtJ i p.1.length hi (by omega), rdS p.1 i hi]
    refine evP (by omega) (evP (by omega) (evP (by omega) (Ev.bind (impl_inodeAt T nx ino hT hs) ?_)))
    refine evI (fun _ => evI (fun _ => ?_) (fun _ => Ev.now _)) (fun _ => Ev.now _)
    refine Ev.bind (impl_entOf _ _ _ _ _ _ p.1[i] (by have := hx.e; dsimp only; omega)) ?_
    exact evI (fun _ => Ev.now _) (fun _ => ih _)
end Go.Proofs.YtkcfmbggdkkfeaaGreatDoor.Q
namespace Go.Proofs.YtkcfmbggdkkfeaaGreatDoor.Q
open Go.RowKit Go.Proofs.YtkcfmbggdkkfeaaGreatDoor.P Go.Proofs.YtkcfmbggdkkfeaaGreatDoorW.PrintWords Go.Proofs.YtkcfmbggdkkfeaaGreatDoorW.PrintLast Go.Proofs.YtkcfmbggdkkfeaaGreatDoorW.PrintMore

def ino0 : S51 := ⟨0, 0, 0, [], [], []⟩
/-- The inode of a path, and a code. -/
def statP (T : List S51) (s : ByteArray) : S51 × Int :=
  if (walkP T s).2 = 0 then (if isAt T (walkP T s).1 = true then (inoAt T (walkP T s).1, 0) else (ino0, 2)) else (ino0, (walkP T s).2)
def tup (p : S51 × Int) : Int × Int × Int × List Int × List S65 × List S71 × Int := (p.1.f0, p.1.f1, p.1.f2, p.1.f3, p.1.f4, p.1.f5, p.2)
theorem statP_small (T : List S51) (s : ByteArray) (hs : ∀ x ∈ T, InoA x) : InoA (statP T s).1 := by
  unfold statP
  split
  · split
    · exact inoAt_small T _ hs
    · exact ⟨by simp [ino0], by simp [ino0], by simp [ino0]⟩
  · exact ⟨by simp [ino0], by simp [ino0], by simp [ino0]⟩
theorem impl_stat (T : List S51) (nx : Int) (s : ByteArray) (hT : T.length ≤ 1048576) (hs : ∀ x ∈ T, InoA x) (h : s.size ≤ 1048576) : Ev (fun k => impl_Stat.f k T nx s) (tup (statP T s)) := by
  unfold impl_Stat.f
  refine Ev.bind (impl_walk T nx s hT hs h) ?_
  by_cases c : (walkP T s).2 = 0
  · refine evP c (Ev.bind (impl_inodeAt T nx _ hT hs) ?_)
    by_cases d : isAt T (walkP T s).1 = true
    · exact evP d (evC (Ev.now _) (by simp only [statP, tup, if_pos c, if_pos d]))
    · exact evN d (evC (Ev.now _) (by simp only [statP, tup, if_pos c, if_neg d]; rfl))
  · exact evN c (evC (Ev.now _) (by simp only [statP, tup, if_neg c]; rfl))
end Go.Proofs.YtkcfmbggdkkfeaaGreatDoor.Q
namespace Go.Proofs.YtkcfmbggdkkfeaaGreatDoor.Q
open Go.RowKit Go.Proofs.YtkcfmbggdkkfeaaGreatDoor.P Go.Proofs.YtkcfmbggdkkfeaaGreatDoorW.PrintWords Go.Proofs.YtkcfmbggdkkfeaaGreatDoorW.PrintLast Go.Proofs.YtkcfmbggdkkfeaaGreatDoorW.PrintMore

theorem lt_ext : ∀ (a b : List Int), a.Pairwise (· < ·) → b.Pairwise (· < ·) → (∀ x, x ∈ a ↔ x ∈ b) → a = b
  | [], [], _, _, _ => rfl
  | [], y :: b, _, _, h => absurd ((h y).2 (List.mem_cons_self ..)) (by simp)
  | x :: a, [], _, _, h => absurd ((h x).1 (List.mem_cons_self ..)) (by simp)
  | x :: a, y :: b, ha, hb, h => by
    obtain ⟨ha1, ha2⟩ := List.pairwise_cons.1 ha
    obtain ⟨hb1, hb2⟩ := List.pairwise_cons.1 hb
    have hxy : x = y := by
      rcases List.mem_cons.1 ((h x).1 (List.mem_cons_self ..)) with h1 | h1
      · exact h1
      · rcases List.mem_cons.1 ((h y).2 (List.mem_cons_self ..)) with h2 | h2
        · exact h2.symm
        · have := hb1 x h1; have := ha1 y h2; omega
    subst hxy
    rw [lt_ext a b ha2 hb2 (fun z => ?_)]
    constructor
    · intro hz
      rcases List.mem_cons.1 ((h z).1 (List.mem_cons_of_mem _ hz)) with rfl | h1
      · have := ha1 z hz; omega
      · exact h1
    · intro hz
      rcases List.mem_cons.1 ((h z).2 (List.mem_cons_of_mem _ hz)) with rfl | h1
      · have := hb1 z hz; omega
      · exact h1
theorem mem_sortI (l : List Int) (x : Int) : x ∈ sortI l ↔ x ∈ l := List.mem_mergeSort ..
theorem sortI_lt (l : List Int) (h : l.Nodup) : (sortI l).Pairwise (· < ·) := by
  have h1 : (sortI l).Pairwise fun x y => decide (x ≤ y) = true := List.pairwise_mergeSort (fun a b c h1 h2 => by simp at *; omega) (fun a b => by simp; omega) l
  have h2 : (sortI l).Nodup := (List.mergeSort_perm l _).nodup_iff.2 h
  exact (h1.and h2).imp (fun ⟨a, b⟩ => by simp at a; omega)
/-- A number's place in a row in order, from the end on: all behind it are greater. -/
def plc (xs : List Int) (n : Int) : Nat → Nat
  | 0 => 0
  | k + 1 => if xs.getD k 0 > n then plc xs n k else k + 1
def putP (xs : List Int) (n : Int) : List Int := if n ∈ xs then xs else xs.take (plc xs n xs.length) ++ [n] ++ xs.drop (plc xs n xs.length)
theorem plc_le (xs : List Int) (n : Int) : ∀ k, plc xs n k ≤ k
  | 0 => Nat.le_refl _
  | k + 1 => by rw [plc]; split; exact Nat.le_succ_of_le (plc_le xs n k); exact Nat.le_refl _
theorem mem_putP (xs : List Int) (n x : Int) : x ∈ putP xs n ↔ x ∈ xs ∨ x = n := by
  unfold putP
  split
  · constructor
    · exact .inl
    · rintro (h | rfl) <;> assumption
  · rw [List.mem_append, List.mem_append, List.mem_singleton]
    conv => rhs; rw [← List.take_append_drop (plc xs n xs.length) xs, List.mem_append]
    constructor
    · rintro ((h | h) | h)
      · exact .inl (.inl h)
      · exact .inr h
      · exact .inl (.inr h)
    · rintro ((h | h) | h)
      · exact .inl (.inl h)
      · exact .inr h
      · exact .inl (.inr h)
theorem plc_gt (xs : List Int) (n : Int) : ∀ k, k ≤ xs.length → ∀ j, plc xs n k ≤ j → j < k → xs.getD j 0 > n
  | 0, _, j, _, h => by omega
  | k + 1, hk, j, h1, h2 => by
    rw [plc] at h1
    split at h1
    · rcases Nat.lt_or_ge j k with h | h
      · exact plc_gt xs n k (by omega) j h1 h
      · obtain rfl : j = k := by omega
        assumption
    · omega
theorem plc_at (xs : List Int) (n : Int) : ∀ k, 0 < plc xs n k → ¬ xs.getD (plc xs n k - 1) 0 > n
  | 0, h => by simp [plc] at h
  | k + 1, h => by
    rw [plc] at h ⊢
    split
    · rename_i hc; rw [if_pos hc] at h; exact plc_at xs n k h
    · rename_i hc; simpa using hc
theorem putP_lt (xs : List Int) (n : Int) (h : xs.Pairwise (· < ·)) : (putP xs n).Pairwise (· < ·) := by
  unfold putP
  split
  · exact h
  · rename_i hn
    have hle := plc_le xs n xs.length
    have hgt := plc_gt xs n xs.length (Nat.le_refl _)
    have hat := plc_at xs n xs.length
    generalize plc xs n xs.length = j at hle hgt hat
    have hp := List.pairwise_iff_getElem.1 h
    have h1 : ∀ a ∈ xs.take j, a < n := fun a ha => by
      obtain ⟨i, hi, rfl⟩ := List.getElem_of_mem ha
      rw [List.length_take] at hi
      rw [List.getElem_take]
      have hj := hat (by omega)
      rw [List.getD_eq_getElem?_getD, List.getElem?_eq_getElem (by omega), Option.getD_some] at hj
      have hne : xs[j - 1] ≠ n := fun e => hn (e ▸ List.getElem_mem _)
      rcases Nat.lt_or_ge i (j - 1) with hl | hg
      · have := hp i (j - 1) (by omega) (by omega) hl; omega
      · obtain rfl : i = j - 1 := by omega
        omega
    have h2 : ∀ b ∈ xs.drop j, n < b := fun b hb => by
      obtain ⟨i, hi, rfl⟩ := List.getElem_of_mem hb
      rw [List.length_drop] at hi
      rw [List.getElem_drop]
      have := hgt (j + i) (by omega) (by omega)
      rw [List.getD_eq_getElem?_getD, List.getElem?_eq_getElem (by omega), Option.getD_some] at this
      exact this
    rw [List.pairwise_append, List.pairwise_append]
    refine ⟨⟨h.sublist (List.take_sublist ..), List.pairwise_singleton .., fun a ha b hb => by rw [List.mem_singleton.1 hb]; exact h1 a ha⟩, h.sublist (List.drop_sublist ..), fun a ha b hb => ?_⟩
    rcases List.mem_append.1 ha with ha | ha
    · have := h1 a ha; have := h2 b hb; omega
    · rw [List.mem_singleton.1 ha]; exact h2 b hb
end Go.Proofs.YtkcfmbggdkkfeaaGreatDoor.Q
namespace Go.Proofs.YtkcfmbggdkkfeaaGreatDoor.Q
open Go.RowKit Go.Proofs.YtkcfmbggdkkfeaaGreatDoor.P Go.Proofs.YtkcfmbggdkkfeaaGreatDoorW.PrintWords Go.Proofs.YtkcfmbggdkkfeaaGreatDoorW.PrintLast Go.Proofs.YtkcfmbggdkkfeaaGreatDoorW.PrintMore

theorem nodup_len : ∀ (xs U : List Int), xs.Nodup → (∀ x ∈ xs, x ∈ U) → xs.length ≤ U.length
  | [], _, _, _ => Nat.zero_le _
  | x :: xs, U, h, hs => by
    obtain ⟨h1, h2⟩ := List.nodup_cons.1 h
    have hx := hs x (List.mem_cons_self ..)
    have := nodup_len xs (U.erase x) h2 (fun y hy => (List.mem_erase_of_ne (fun (e : y = x) => h1 (e ▸ hy))).2 (hs y (List.mem_cons_of_mem _ hy)))
    rw [List.length_erase_of_mem hx] at this
    have := List.length_pos_of_mem hx
    simp only [List.length_cons]
    omega
theorem nodup_all (xs U : List Int) (h : xs.Nodup) (hs : ∀ x ∈ xs, x ∈ U) (hl : U.length ≤ xs.length) : ∀ y ∈ U, y ∈ xs := fun y hy => by
  apply Classical.byContradiction
  intro hn
  have := nodup_len (y :: xs) U (List.nodup_cons.2 ⟨hn, h⟩) (fun z hz => by
    rcases List.mem_cons.1 hz with rfl | hz
    · exact hy
    · exact hs z hz)
  simp only [List.length_cons] at this
  omega
theorem lt_nodup {l : List Int} (h : l.Pairwise (· < ·)) : l.Nodup := h.imp (fun h e => by omega)
section
variable (ex : Int → Bool) (kids : Int → List Int)
/-- One entry more. -/
def addP (out es : List Int) : List Int := es.foldl (fun o e => if ex e = true then putP o e else o) out
def nextP (xs : List Int) : List Int := addP ex xs (xs.flatMap kids)
def itP : Nat → List Int → List Int
  | 0, xs => xs
  | n + 1, xs => itP n (nextP ex kids xs)
def Shut1 (xs : List Int) : Prop := ∀ x ∈ xs, ∀ y ∈ kids x, ex y = true → y ∈ xs
theorem mem_addP (es : List Int) : ∀ (out : List Int) (x : Int), x ∈ addP ex out es ↔ x ∈ out ∨ (x ∈ es ∧ ex x = true) := by
  induction es with
  | nil => intro out x; simp [addP]
  | cons e es ih =>
    intro out x
    show x ∈ addP ex (if ex e = true then putP out e else out) es ↔ _
    rw [ih]
    by_cases c : ex e = true
    · rw [if_pos c, mem_putP, List.mem_cons]
      constructor
      · rintro ((h | rfl) | ⟨h, k⟩)
        · exact .inl h
        · exact .inr ⟨.inl rfl, c⟩
        · exact .inr ⟨.inr h, k⟩
      · rintro (h | ⟨rfl | h, k⟩)
        · exact .inl (.inl h)
        · exact .inl (.inr rfl)
        · exact .inr ⟨h, k⟩
    · rw [if_neg c, List.mem_cons]
      constructor
      · rintro (h | ⟨h, k⟩)
        · exact .inl h
        · exact .inr ⟨.inr h, k⟩
      · rintro (h | ⟨rfl | h, k⟩)
        · exact .inl h
        · exact absurd k c
        · exact .inr ⟨h, k⟩
theorem addP_lt (es : List Int) : ∀ (out : List Int), out.Pairwise (· < ·) → (addP ex out es).Pairwise (· < ·) := by
  induction es with
  | nil => intro out h; exact h
  | cons e es ih =>
    intro out h
    show (addP ex (if ex e = true then putP out e else out) es).Pairwise (· < ·)
    refine ih _ ?_
    split
    · exact putP_lt out e h
    · exact h
theorem mem_nextP (xs : List Int) (y : Int) : y ∈ nextP ex kids xs ↔ y ∈ xs ∨ ((∃ x ∈ xs, y ∈ kids x) ∧ ex y = true) := by
  unfold nextP; rw [mem_addP, List.mem_flatMap]
theorem itP_lt : ∀ n (xs : List Int), xs.Pairwise (· < ·) → (itP ex kids n xs).Pairwise (· < ·)
  | 0, _, h => h
  | n + 1, xs, h => itP_lt n _ (addP_lt ex _ _ h)
theorem itP_sub : ∀ n (xs : List Int), ∀ x ∈ xs, x ∈ itP ex kids n xs
  | 0, _, _, h => h
  | n + 1, xs, x, h => itP_sub n _ x ((mem_nextP ex kids xs x).2 (.inl h))
theorem itP_in (K : List Int) (hK : Shut1 ex kids K) : ∀ n (xs : List Int), (∀ x ∈ xs, x ∈ K) → ∀ x ∈ itP ex kids n xs, x ∈ K
  | 0, _, h => h
  | n + 1, xs, h => itP_in K hK n _ (fun x hx => by
    rcases (mem_nextP ex kids xs x).1 hx with hx | ⟨⟨z, hz, hk⟩, he⟩
    · exact h x hx
    · exact hK z (h z hz) x hk he)
theorem itP_fix (xs : List Int) (h : nextP ex kids xs = xs) : ∀ n, itP ex kids n xs = xs
  | 0 => rfl
  | n + 1 => by rw [itP, h]; exact itP_fix xs h n
theorem itP_shut (U : List Int) (hU : ∀ y, ex y = true → y ∈ U) : ∀ n (xs : List Int), xs.Pairwise (· < ·) → (∀ x ∈ xs, x ∈ U) → U.length ≤ xs.length + n → Shut1 ex kids (itP ex kids n xs)
  | 0, xs, h, hs, hl => fun x _ y _ he => nodup_all xs U (lt_nodup h) hs hl y (hU y he)
  | n + 1, xs, h, hs, hl => by
    by_cases c : nextP ex kids xs = xs
    · rw [itP_fix ex kids xs c]
      intro x hx y hy he
      rw [← c]
      exact (mem_nextP ex kids xs y).2 (.inr ⟨⟨x, hx, hy⟩, he⟩)
    · refine itP_shut U hU n _ (addP_lt ex _ _ h) (fun x hx => ?_) ?_
      · rcases (mem_nextP ex kids xs x).1 hx with hx | ⟨_, he⟩
        · exact hs x hx
        · exact hU x he
      · have : xs.length < (nextP ex kids xs).length := by
          apply Classical.byContradiction
          intro hn
          refine c (lt_ext _ _ (addP_lt ex _ _ h) h (fun x => ⟨fun hx => ?_, fun hx => (mem_nextP ex kids xs x).2 (.inl hx)⟩))
          exact nodup_all xs (nextP ex kids xs) (lt_nodup h) (fun y hy => (mem_nextP ex kids xs y).2 (.inl hy)) (by omega) x hx
        omega
/-- Two ways to the closure of 1: the same row. -/
theorem reach_same (U out : List Int) (hU : ∀ y, ex y = true → y ∈ U) (h1 : ex 1 = true) (hn : out.Nodup) (ho : Shut1 ex kids out) (h1o : 1 ∈ out) (hmin : ∀ K : List Int, Shut1 ex kids K → 1 ∈ K → ∀ x ∈ out, x ∈ K) :
    sortI out = itP ex kids U.length [1] := by
  have hs := itP_shut ex kids U hU U.length [1] (List.pairwise_singleton ..) (fun x hx => by rw [List.mem_singleton.1 hx]; exact hU 1 h1) (by omega)
  refine lt_ext _ _ (sortI_lt out hn) (itP_lt ex kids _ _ (List.pairwise_singleton ..)) (fun x => ?_)
  rw [mem_sortI]
  exact ⟨hmin _ hs (itP_sub ex kids _ _ 1 (List.mem_singleton.2 rfl)) x, itP_in ex kids out ho _ _ (fun y hy => by rw [List.mem_singleton.1 hy]; exact h1o) x⟩
end
end Go.Proofs.YtkcfmbggdkkfeaaGreatDoor.Q
namespace Go.Proofs.YtkcfmbggdkkfeaaGreatDoor.Q
open Go.RowKit Go.Proofs.YtkcfmbggdkkfeaaGreatDoor.P Go.Proofs.YtkcfmbggdkkfeaaGreatDoorW.PrintWords Go.Proofs.YtkcfmbggdkkfeaaGreatDoorW.PrintLast Go.Proofs.YtkcfmbggdkkfeaaGreatDoorW.PrintMore

end Go.Proofs.YtkcfmbggdkkfeaaGreatDoor.Q
namespace Go.Proofs.YtkcfmbggdkkfeaaGreatDoor.Q
open Go.RowKit Go.Proofs.YtkcfmbggdkkfeaaGreatDoor.P Go.Proofs.YtkcfmbggdkkfeaaGreatDoorW.PrintWords Go.Proofs.YtkcfmbggdkkfeaaGreatDoorW.PrintLast Go.Proofs.YtkcfmbggdkkfeaaGreatDoorW.PrintMore

def kidsI (l : List S51) (n : Int) : List Int := if isAt l n = true ∧ (inoAt l n).f1 = 2 then (inoAt l n).f4.map (·.f1) else []
theorem ex_mem (l : List S51) (n : Int) (h : isAt l n = true) : n ∈ l.map (·.f0) := by
  apply Classical.byContradiction
  intro hn
  have := placeR_none n l 0 (fun x hx e => hn (List.mem_map.2 ⟨x, hx, e⟩))
  unfold isAt at h
  rw [this] at h
  simp at h
/-- A row of numbers that are there, in order. -/
structure RowE (l : List S51) (xs : List Int) : Prop where
  lt : xs.Pairwise (· < ·)
  ex : ∀ x ∈ xs, isAt l x = true
theorem RowE.len {l : List S51} {xs : List Int} (h : RowE l xs) : xs.length ≤ l.length := by
  have := nodup_len xs (l.map (·.f0)) (lt_nodup h.lt) (fun x hx => ex_mem l x (h.ex x hx))
  rwa [List.length_map] at this
theorem RowE.put {l : List S51} {xs : List Int} (h : RowE l xs) (n : Int) (hn : isAt l n = true) : RowE l (putP xs n) :=
  ⟨putP_lt xs n h.lt, fun x hx => by rcases (mem_putP xs n x).1 hx with hx | rfl; exact h.ex x hx; exact hn⟩
theorem RowE.add {l : List S51} {out : List Int} (h : RowE l out) (es : List Int) : RowE l (addP (isAt l) out es) :=
  ⟨addP_lt _ _ _ h.lt, fun x hx => by rcases (mem_addP (isAt l) es out x).1 hx with hx | ⟨_, hx⟩; exact h.ex x hx; exact hx⟩
end Go.Proofs.YtkcfmbggdkkfeaaGreatDoor.Q
namespace Go.Proofs.YtkcfmbggdkkfeaaGreatDoor.Q
open Go.RowKit Go.Proofs.YtkcfmbggdkkfeaaGreatDoor.P Go.Proofs.YtkcfmbggdkkfeaaGreatDoorW.PrintWords Go.Proofs.YtkcfmbggdkkfeaaGreatDoorW.PrintLast Go.Proofs.YtkcfmbggdkkfeaaGreatDoorW.PrintMore

theorem iReached_in (l : List S51) (nx : Int) (out : List Int) (e : List S65) (R : List Int) (he : e.length ≤ 1048576) :
    ∀ (m : Nat), m ≤ e.length → ∀ q, q.length + m < 17592186044416 → Ev (fun k => impl_Reached.l0 k out (q ++ (e.drop (e.length - m)).map (·.f1)) l nx) R → Ev (fun k => impl_Reached.l1 k out q e (e.length : Int) ((e.length - m : Nat) : Int) l nx) R := by
  intro m
  induction m with
  | zero =>
    intro _ q _ h
    rw [Nat.sub_zero, List.drop_length, List.map_nil, List.append_nil] at h
    apply evPre
    simp only [impl_Reached.l1, Nat.sub_zero]
    exact evN (by omega) h
  | succ m ih =>
    intro hm q hq h
    have hj : e.length - (m + 1) < e.length := by omega
    have hrd : rd_T65 e ((e.length - (m + 1) : Nat) : Int) = e[e.length - (m + 1)] := getD_at e _ _ hj
    rw [List.drop_eq_getElem_cons hj, show e.length - (m + 1) + 1 = e.length - m by omega, List.map_cons] at h
    apply evPre
    simp only [impl_Reached.l1, hrd]
    rw [nxt _ e.length hj (by omega), show e.length - (m + 1) + 1 = e.length - m by omega]
    refine evP (by omega) (evP (by omega) (evP (by omega) (evP (by omega) (ih (by omega) _ (by simp only [List.length_append, List.length_singleton]; omega) ?_))))
    rw [List.append_assoc]
    exact h
structure InvR (l : List S51) (out q : List Int) : Prop where
  nd : out.Nodup
  ex : ∀ x ∈ out, isAt l x = true
  sh : ∀ x ∈ out, ∀ y ∈ kidsI l x, isAt l y = true → y ∈ out ∨ y ∈ q
  one : isAt l 1 = true → 1 ∈ out ∨ 1 ∈ q
  mi : ∀ K : List Int, Shut1 (isAt l) (kidsI l) K → (isAt l 1 = true → 1 ∈ K) → (∀ x ∈ out, x ∈ K) ∧ ∀ y ∈ q, isAt l y = true → y ∈ K
  ln : q.length ≤ 1 + out.length * 1048576
theorem InvR.len {l : List S51} {out q : List Int} (h : InvR l out q) : out.length ≤ l.length := by
  have := nodup_len out (l.map (·.f0)) h.nd (fun x hx => ex_mem l x (h.ex x hx))
  rwa [List.length_map] at this
theorem kidsI_len (l : List S51) (n : Int) (hs : ∀ x ∈ l, InoA x) : (kidsI l n).length ≤ 1048576 := by
  have h := (inoAt_small l n hs).e
  unfold kidsI
  split
  · rwa [List.length_map]
  · simp
theorem InvR.old {l : List S51} {out q : List Int} {n : Int} (h : InvR l out (n :: q)) (ho : ¬ (isAt l n = true ∧ n ∉ out)) : InvR l out q := by
  have hn : isAt l n = true → n ∈ out := fun e => Classical.byContradiction fun c => ho ⟨e, c⟩
  refine ⟨h.nd, h.ex, fun x hx y hy he => ?_, fun e => ?_, fun K hK h1 => ⟨(h.mi K hK h1).1, fun y hy => (h.mi K hK h1).2 y (List.mem_cons_of_mem _ hy)⟩, by have := h.ln; simp only [List.length_cons] at this; omega⟩
  · rcases h.sh x hx y hy he with a | a
    · exact .inl a
    · rcases List.mem_cons.1 a with rfl | a
      · exact .inl (hn he)
      · exact .inr a
  · rcases h.one e with a | a
    · exact .inl a
    · rcases List.mem_cons.1 a with a | a
      · exact .inl (a ▸ hn (a ▸ e))
      · exact .inr a
theorem InvR.new {l : List S51} {out q : List Int} {n : Int} (hs : ∀ x ∈ l, InoA x) (h : InvR l out (n :: q)) (he : isAt l n = true) (hn : n ∉ out) : InvR l (out ++ [n]) (q ++ kidsI l n) := by
  have hk := kidsI_len l n hs
  refine ⟨?_, fun x hx => ?_, fun x hx y hy hey => ?_, fun e => ?_, fun K hK h1 => ⟨fun x hx => ?_, fun y hy hey => ?_⟩, ?_⟩
  · rw [List.nodup_append]
    exact ⟨h.nd, by simp, fun a ha b hb => by rw [List.mem_singleton.1 hb]; exact fun e => hn (e ▸ ha)⟩
  · rcases List.mem_append.1 hx with hx | hx
    · exact h.ex x hx
    · rw [List.mem_singleton.1 hx]; exact he
  · rcases List.mem_append.1 hx with hx | hx
    · rcases h.sh x hx y hy hey with a | a
      · exact .inl (List.mem_append.2 (.inl a))
      · rcases List.mem_cons.1 a with rfl | a
        · exact .inl (List.mem_append.2 (.inr (List.mem_singleton.2 rfl)))
        · exact .inr (List.mem_append.2 (.inl a))
    · rw [List.mem_singleton.1 hx] at hy
      exact .inr (List.mem_append.2 (.inr hy))
  · rcases h.one e with a | a
    · exact .inl (List.mem_append.2 (.inl a))
    · rcases List.mem_cons.1 a with a | a
      · exact .inl (List.mem_append.2 (.inr (List.mem_singleton.2 a)))
      · exact .inr (List.mem_append.2 (.inl a))
  · rcases List.mem_append.1 hx with hx | hx
    · exact (h.mi K hK h1).1 x hx
    · rw [List.mem_singleton.1 hx]; exact (h.mi K hK h1).2 n (List.mem_cons_self ..) he
  · rcases List.mem_append.1 hy with hy | hy
    · exact (h.mi K hK h1).2 y (List.mem_cons_of_mem _ hy) hey
    · exact hK n ((h.mi K hK h1).2 n (List.mem_cons_self ..) he) y hy hey
  · have := h.ln
    simp only [List.length_append, List.length_cons, List.length_singleton, List.length_nil] at this ⊢
    omega
theorem iReached_step (l : List S51) (nx : Int) (hl : l.length ≤ 1048576) (hs : ∀ x ∈ l, InoA x) (out q : List Int) (n : Int) (R : List Int) (hi : InvR l out (n :: q))
    (hold : ¬ (isAt l n = true ∧ n ∉ out) → Ev (fun k => impl_Reached.l0 k out q l nx) R) (hnew : isAt l n = true → n ∉ out → Ev (fun k => impl_Reached.l0 k (out ++ [n]) (q ++ kidsI l n) l nx) R) : Ev (fun k => impl_Reached.l0 k out (n :: q) l nx) R := by
  have hlen := hi.len
  have hln := hi.ln
  simp only [List.length_cons] at hln
  have hrd : rd (n :: q) 0 = n := rfl
  have hdr : (n :: q).drop (1 : Int).toNat = q := rfl
  have hsm := inoAt_small l n hs
  apply evPre
  simp only [impl_Reached.l0, hrd, hdr, Option.bind_some]
  refine evP (by simp only [List.length_cons]; omega) (evP (by simp only [List.length_cons]; omega) (evP (by simp only [List.length_cons]; omega) (Ev.bind (impl_inodeAt l nx n hl hs) ?_)))
  dsimp only
  by_cases c : isAt l n = true
  · have hc : slices_Contains_int_int.f out n = some (out.contains n) := by unfold slices_Contains_int_int.f; rw [if_pos (by omega)]
    refine evP c ?_
    simp only [hc, Option.bind_some]
    by_cases cc : n ∈ out
    · have : out.contains n = true := by simpa using cc
      rw [this]
      apply evPre
      simp only [impl_Reached.j1]
      exact evP trivial (hold (fun h => h.2 cc))
    · have : out.contains n = false := by simpa using cc
      rw [this]
      have h := hnew c cc
      apply evPre
      simp only [impl_Reached.j1, Option.bind_some]
      refine evN (by decide) (evP (by omega) ?_)
      by_cases hk : (inoAt l n).f1 = 2
      · have e : kidsI l n = (inoAt l n).f4.map (·.f1) := if_pos ⟨c, hk⟩
        rw [e] at h
        refine evP hk ?_
        have hln2 : out.length * 1048576 ≤ 1048576 * 1048576 := Nat.mul_le_mul_right _ (by omega)
        have he := hsm.e
        have := iReached_in l nx (out ++ [n]) (inoAt l n).f4 R hsm.e _ (Nat.le_refl _) q (by omega) (by rw [Nat.sub_self, List.drop_zero]; exact h)
        rw [Nat.sub_self] at this
        exact this
      · have e : kidsI l n = [] := if_neg (fun h => hk h.2)
        rw [e, List.append_nil] at h
        exact evN hk h
  · refine evN c ?_
    apply evPre
    simp only [impl_Reached.j1]
    exact evP trivial (hold (fun h => c h.1))
theorem iReached_loop (l : List S51) (nx : Int) (hl : l.length ≤ 1048576) (hs : ∀ x ∈ l, InoA x) : ∀ (d : Nat) (q out : List Int), l.length - out.length ≤ d → InvR l out q → ∃ o, Ev (fun k => impl_Reached.l0 k out q l nx) (sortI o) ∧ InvR l o [] := by
  intro d
  induction d with
  | zero =>
    intro q
    induction q with
    | nil =>
      intro out _ h
      refine ⟨out, ?_, h⟩
      have := h.len
      apply evPre
      simp only [impl_Reached.l0]
      exact evN (by simp) (evP (by omega) (Ev.now _))
    | cons n q ihq =>
      intro out hd h
      by_cases c : isAt l n = true ∧ n ∉ out
      · have := (h.new hs c.1 c.2).len
        simp only [List.length_append, List.length_singleton] at this
        omega
      · obtain ⟨o, ho, hi⟩ := ihq out hd (h.old c)
        exact ⟨o, iReached_step l nx hl hs out q n _ h (fun _ => ho) (fun a b => absurd ⟨a, b⟩ c), hi⟩
  | succ d ih =>
    intro q
    induction q with
    | nil =>
      intro out _ h
      refine ⟨out, ?_, h⟩
      have := h.len
      apply evPre
      simp only [impl_Reached.l0]
      exact evN (by simp) (evP (by omega) (Ev.now _))
    | cons n q ihq =>
      intro out hd h
      by_cases c : isAt l n = true ∧ n ∉ out
      · obtain ⟨o, ho, hi⟩ := ih (q ++ kidsI l n) (out ++ [n]) (by simp only [List.length_append, List.length_singleton]; omega) (h.new hs c.1 c.2)
        exact ⟨o, iReached_step l nx hl hs out q n _ h (fun a => absurd c a) (fun _ _ => ho), hi⟩
      · obtain ⟨o, ho, hi⟩ := ihq out hd (h.old c)
        exact ⟨o, iReached_step l nx hl hs out q n _ h (fun _ => ho) (fun a b => absurd ⟨a, b⟩ c), hi⟩
theorem impl_reached (l : List S51) (nx : Int) (hl : l.length ≤ 1048576) (hs : ∀ x ∈ l, InoA x) : Ev (fun k => impl_Reached.f k l nx) (if isAt l 1 = true then itP (isAt l) (kidsI l) l.length [1] else []) := by
  obtain ⟨o, ho, hi⟩ := iReached_loop l nx hl hs l.length [1] [] (by omega) ⟨List.nodup_nil, (fun x hx => by cases hx), (fun x hx => by cases hx), (fun _ => .inr (List.mem_singleton.2 rfl)), (fun K hK h1 => ⟨(fun x hx => by cases hx), (fun y hy he => by rw [List.mem_singleton.1 hy] at he ⊢; exact h1 he)⟩), by simp⟩
  unfold impl_Reached.f
  refine evC ho ?_
  by_cases c : isAt l 1 = true
  · rw [if_pos c]
    have h1o : 1 ∈ o := (hi.one c).resolve_right (by simp)
    have := reach_same (isAt l) (kidsI l) (l.map (·.f0)) o (fun y hy => ex_mem l y hy) c hi.nd (fun x hx y hy he => (hi.sh x hx y hy he).resolve_right (by simp)) h1o (fun K hK h1 => (hi.mi K hK (fun _ => h1)).1)
    rw [List.length_map] at this
    exact this
  · rw [if_neg c]
    have : o = [] := List.eq_nil_iff_forall_not_mem.2 (fun x hx => by have := (hi.mi [] (fun x hx => by cases hx) (fun e => absurd e c)).1 x hx; cases this)
    rw [this]
    exact List.eq_nil_of_length_eq_zero (by rw [sortI_length]; rfl)
end Go.Proofs.YtkcfmbggdkkfeaaGreatDoor.Q
namespace Go.Proofs.YtkcfmbggdkkfeaaGreatDoor.Q
open Go.RowKit Go.Proofs.YtkcfmbggdkkfeaaGreatDoor.P Go.Proofs.YtkcfmbggdkkfeaaGreatDoorW.PrintWords Go.Proofs.YtkcfmbggdkkfeaaGreatDoorW.PrintLast Go.Proofs.YtkcfmbggdkkfeaaGreatDoorW.PrintMore

theorem linksOf_le (n : Int) (l : List S51) (h : ∀ x ∈ l, x.f4.length ≤ 1048576) : linksOf n l ≤ l.length * 1048576 := by
  induction l with
  | nil => simp [linksOf]
  | cons x m ih =>
    have e : inoLinks n x ≤ 1048576 := by
      have := h x (List.mem_cons_self ..)
      unfold inoLinks
      split
      · have := List.length_filter_le (fun y : S65 => decide (y.f1 = n)) x.f4
        unfold entLinks; omega
      · omega
    have := ih (fun y hy => h y (List.mem_cons_of_mem _ hy))
    simp only [linksOf, List.map_cons, List.sum_cons, List.length_cons] at this ⊢
    omega
def entsIn (l : List S51) (e : List S65) : Bool := e.all fun x => isAt l x.f1
def treeL (l xs : List S51) : Bool := xs.all fun x => decide (x.f2 = (linksOf x.f0 l : Int)) && entsIn l x.f4
def reachP (l : List S51) : List Int := if isAt l 1 = true then itP (isAt l) (kidsI l) l.length [1] else []
def treeOk (l : List S51) (nx : Int) : Bool := tabOk l nx && (decide ((reachP l).length = l.length) && treeL l l)
theorem treeL_drop (l : List S51) (i : Nat) (hi : i < l.length) : treeL l (l.drop i) = (decide (l[i].f2 = (linksOf l[i].f0 l : Int)) && entsIn l l[i].f4 && treeL l (l.drop (i + 1))) := by
  unfold treeL; rw [List.drop_eq_getElem_cons hi, List.all_cons]
theorem entsIn_drop (l : List S51) (e : List S65) (j : Nat) (hj : j < e.length) : entsIn l (e.drop j) = (isAt l e[j].f1 && entsIn l (e.drop (j + 1))) := by
  unfold entsIn; rw [List.drop_eq_getElem_cons hj, List.all_cons]
theorem impl_tree_ents (l : List S51) (nx i : Int) (e : List S65) (Z : Bool) (hl : l.length ≤ 1048576) (he : e.length ≤ 1048576) (hfin : Ev (fun k => impl_TreeOk.l0 k l (l.length : Int) (wrap64 (i + 1)) l nx) Z) :
    Ev (fun k => impl_TreeOk.l1 k l (l.length : Int) i e (e.length : Int) 0 l nx) (entsIn l e && Z) := by
  have key := down (n := e.length) (P := fun j => Ev (fun k => impl_TreeOk.l1 k l (l.length : Int) i e (e.length : Int) (j : Nat) l nx) (entsIn l (e.drop j) && Z)) (by
      apply evPre
      simp only [impl_TreeOk.l1, List.drop_length]
      exact evN (by omega) hfin) (fun j hj h => by
      have hrd : rd_T65 e (j : Int) = e[j] := getD_at e _ j hj
      apply evPre
      simp only [impl_TreeOk.l1, hrd]
      rw [nxt j e.length hj (by omega), entsIn_drop l e j hj]
      have hp : Ev (fun k => impl_placeOf.f k l nx e[j].f1) (placeR e[j].f1 l 0) := by unfold impl_placeOf.f; exact evP (by omega) (Ev.now _)
      refine evP (by omega) (evP (by omega) (evP (by omega) (Ev.bind hp ?_)))
      by_cases c : placeR e[j].f1 l 0 < 0
      · refine evP c (evC (Ev.now _) ?_)
        unfold isAt; rw [decide_eq_false (by omega)]; rfl
      · refine evN c (evC h ?_)
        unfold isAt; rw [decide_eq_true (by omega)]; rfl)
  simpa using key
theorem impl_tree_loop (l : List S51) (nx : Int) (hl : l.length ≤ 1048576) (hs : ∀ x ∈ l, x.f4.length ≤ 1048576) : Ev (fun k => impl_TreeOk.l0 k l (l.length : Int) 0 l nx) (treeL l l) := by
  have key := down (n := l.length) (P := fun i => Ev (fun k => impl_TreeOk.l0 k l (l.length : Int) (i : Nat) l nx) (treeL l (l.drop i))) (by
      apply evPre
      simp only [impl_TreeOk.l0, List.drop_length]
      exact evN (by omega) (Ev.now _)) (fun i hi h => by
      have hrd : rd_T51 l (i : Int) = l[i] := getD_at l _ i hi
      have hx := hs _ (List.getElem_mem hi)
      have hu := linksOf_le l[i].f0 l hs
      have hu2 : l.length * 1048576 ≤ 1048576 * 1048576 := Nat.mul_le_mul_right _ hl
      rw [← nxt i l.length hi (by omega)] at h
      apply evPre
      simp only [impl_TreeOk.l0, hrd]
      rw [treeL_drop l i hi]
      refine evP (by omega) (evP (by omega) (evP (by omega) (Ev.bind (impl_links l nx _ hl hs (by omega)) ?_)))
      by_cases c : l[i].f2 = ((linksOf l[i].f0 l : Nat) : Int)
      · refine evP c (evC (impl_tree_ents l nx i l[i].f4 _ hl hx h) ?_)
        rw [decide_eq_true c, Bool.true_and]
      · refine evN c (evC (Ev.now _) ?_)
        rw [decide_eq_false c]; rfl)
  simpa using key
theorem impl_treeOk (l : List S51) (nx : Int) (hl : l.length ≤ 1048576) (hs : ∀ x ∈ l, InoT x) : Ev (fun k => impl_TreeOk.f k l nx) (treeOk l nx) := by
  have hA : ∀ x ∈ l, InoA x := fun x hx => ⟨(hs x hx).d, (hs x hx).e, (hs x hx).t⟩
  unfold impl_TreeOk.f treeOk
  refine Ev.bind (impl_tabOk l nx hl hs) ?_
  by_cases c1 : tabOk l nx = true
  · refine evP c1 (Ev.bind (impl_reached l nx hl hA) ?_)
    rw [c1, Bool.true_and]
    change Ev (fun k => impl_TreeOk.j0 k (((reachP l).length : Int) != (l.length : Int)) l nx) _
    apply evPre
    simp only [impl_TreeOk.j0]
    by_cases c2 : (reachP l).length = l.length
    · refine evN (by simp [c2]) (evC (impl_tree_loop l nx hl (fun x hx => (hs x hx).e)) ?_)
      rw [decide_eq_true c2, Bool.true_and]
    · refine evP (by simp; omega) (evC (Ev.now _) ?_)
      rw [decide_eq_false c2]; rfl
  · refine evN c1 ?_
    apply evPre
    simp only [impl_TreeOk.j0]
    refine evP trivial (evC (Ev.now _) ?_)
    rw [show tabOk l nx = false by simpa using c1]; rfl
end Go.Proofs.YtkcfmbggdkkfeaaGreatDoor.Q
namespace Go.Proofs.YtkcfmbggdkkfeaaGreatDoor.Q
open Go.RowKit Go.Proofs.YtkcfmbggdkkfeaaGreatDoor.P Go.Proofs.YtkcfmbggdkkfeaaGreatDoorW.PrintWords Go.Proofs.YtkcfmbggdkkfeaaGreatDoorW.PrintLast Go.Proofs.YtkcfmbggdkkfeaaGreatDoorW.PrintMore

theorem impl_copy_tab (l : List S51) (nx : Int) (hl : l.length ≤ 1048576) (hs : ∀ x ∈ l, InoA x) : Ev (fun k => impl_copyTab.f k l nx) (l, nx) := by
  have key := down (n := l.length) (P := fun i => Ev (fun k => impl_copyTab.l0 k l (l.length : Int) (i : Nat) (l.take i) nx) (l, nx)) (by
      apply evPre
      simp only [impl_copyTab.l0, List.take_length]
      exact evN (by omega) (Ev.now _)) (fun i hi h => by
      have hrd : rd_T51 l (i : Int) = l[i] := getD_at l _ i hi
      apply evPre
      simp only [impl_copyTab.l0, hrd, copy_ino l[i] (hs _ (List.getElem_mem hi)), Option.bind_some]
      rw [nxt i l.length hi (by omega)]
      refine evP (by omega) (evP (by omega) (evP (by omega) (evP (by rw [List.length_take]; omega) ?_)))
      rw [List.take_succ_eq_append_getElem hi] at h
      exact h)
  simpa [impl_copyTab.f] using key
end Go.Proofs.YtkcfmbggdkkfeaaGreatDoor.Q
namespace Go.Proofs.YtkcfmbggdkkfeaaGreatDoor.Q
open Go.RowKit Go.Proofs.YtkcfmbggdkkfeaaGreatDoor.P Go.Proofs.YtkcfmbggdkkfeaaGreatDoorW.PrintWords Go.Proofs.YtkcfmbggdkkfeaaGreatDoorW.PrintLast Go.Proofs.YtkcfmbggdkkfeaaGreatDoorW.PrintMore

theorem setP_length (x : S51) (l : List S51) : (setP x l).length ≤ l.length + 1 := by
  unfold setP
  split
  · rw [List.length_set]; omega
  · simp only [List.length_append, List.length_take, List.length_drop, List.length_singleton]; omega
theorem mem_setP (x y : S51) (l : List S51) (h : y ∈ setP x l) : y = x ∨ y ∈ l := by
  unfold setP at h
  split at h
  · rcases List.mem_or_eq_of_mem_set h with h | h
    · exact .inr h
    · exact .inl h
  · rcases List.mem_append.1 h with h | h
    · rcases List.mem_append.1 h with h | h
      · exact .inr (List.mem_of_mem_take h)
      · exact .inl (by simpa using h)
    · exact .inr (List.mem_of_mem_drop h)
theorem impl_set (l : List S51) (nx : Int) (x : S51) (hl : l.length ≤ 1048576) (hs : ∀ x ∈ l, InoA x) (hx : InoA x) : Ev (fun k => impl_SetInode.f k l nx x.f0 x.f1 x.f2 x.f3 x.f4 x.f5) (setP x l, nx) := by
  unfold impl_SetInode.f
  refine Ev.bind (impl_copy_tab l nx hl hs) ?_
  simp only [copy_ino x hx, Option.bind_some]
  exact evP (by omega) (Ev.now _)
end Go.Proofs.YtkcfmbggdkkfeaaGreatDoor.Q
namespace Go.Proofs.YtkcfmbggdkkfeaaGreatDoor.Q
open Go.RowKit Go.Proofs.YtkcfmbggdkkfeaaGreatDoor.P Go.Proofs.YtkcfmbggdkkfeaaGreatDoorW.PrintWords Go.Proofs.YtkcfmbggdkkfeaaGreatDoorW.PrintLast Go.Proofs.YtkcfmbggdkkfeaaGreatDoorW.PrintMore

end Go.Proofs.YtkcfmbggdkkfeaaGreatDoor.Q
namespace Go.Proofs.YtkcfmbggdkkfeaaGreatDoor.Q
open Go.RowKit Go.Proofs.YtkcfmbggdkkfeaaGreatDoor.P Go.Proofs.YtkcfmbggdkkfeaaGreatDoorW.PrintWords Go.Proofs.YtkcfmbggdkkfeaaGreatDoorW.PrintLast Go.Proofs.YtkcfmbggdkkfeaaGreatDoorW.PrintMore

theorem joinB_path (l : List ByteArray) (h : l ≠ []) : (⟨#[47]⟩ ++ joinB l : ByteArray) = pathB l := by
  induction l with
  | nil => exact absurd rfl h
  | cons x l ih =>
    cases l with
    | nil =>
      simp only [pathB, app_nil]
      congr 1
      simp [joinB, Lib.join]
    | cons y l =>
      have := ih (by simp)
      rw [pathB, ← this]
      apply ByteArray.ext
      simp [joinB, Lib.join, ByteArray.data_append]
theorem impl_join (l : List ByteArray) (hl : l.length ≤ 1048576) (hz : strSz l ≤ 1048576) : Ev (fun k => impl_JoinPath.f k l) (if goodPath l = true then ⟨#[47]⟩ ++ joinB l else ⟨#[]⟩) := by
  have hs : ∀ x ∈ l, x.size ≤ 1048576 := fun x hx => Nat.le_trans (strSz_mem l x hx) hz
  have hj : (joinB l).size ≤ 3000000 := by
    cases l with
    | nil => decide
    | cons x l =>
      have h1 := joinB_path (x :: l) (by simp)
      have h2 := pathB_size (x :: l)
      rw [← h1, ByteArray.size_append] at h2
      omega
  have hn : Ev (fun k => impl_namesOk.f k l) (goodPath l) := by
    unfold impl_namesOk.f goodPath
    by_cases c : l.length ≤ 30
    · obtain ⟨r, h1, h2⟩ := badR_ev l hs 0
      refine evP c (Ev.bind h1 (evC (Ev.now _) ?_))
      rw [h2]; simp [c]
    · exact evN c (evC (Ev.now _) (by simp [c]))
  unfold impl_JoinPath.f
  refine Ev.bind hn ?_
  by_cases c : goodPath l = true
  · exact evP c (evP ⟨by omega, by omega⟩ (evC (Ev.now _) (by rw [if_pos c])))
  · exact evN c (evC (Ev.now _) (by rw [if_neg c]))
end Go.Proofs.YtkcfmbggdkkfeaaGreatDoor.Q
namespace Go.Proofs.YtkcfmbggdkkfeaaGreatDoor.Q
open Go.RowKit Go.Proofs.YtkcfmbggdkkfeaaGreatDoor.P Go.Proofs.YtkcfmbggdkkfeaaGreatDoorW.PrintWords Go.Proofs.YtkcfmbggdkkfeaaGreatDoorW.PrintLast Go.Proofs.YtkcfmbggdkkfeaaGreatDoorW.PrintMore

theorem impl_joinQ (l : List ByteArray) (hl : l.length ≤ 1048576) (hz : strSz l ≤ 1048576) : Ev (fun k => impl_JoinPath.f k l) (joinQ l) := by
  refine evC (impl_join l hl hz) ?_
  unfold joinQ
  by_cases c : l.length = 0
  · obtain rfl := List.eq_nil_of_length_eq_zero c
    rfl
  · rw [if_neg c]
    split
    · rw [joinB_path l (fun h => c (by rw [h]; rfl))]
    · rfl
end Go.Proofs.YtkcfmbggdkkfeaaGreatDoor.Q
namespace Go.Proofs.YtkcfmbggdkkfeaaGreatDoor.Q
open Go.RowKit Go.Proofs.YtkcfmbggdkkfeaaGreatDoor.P Go.Proofs.YtkcfmbggdkkfeaaGreatDoorW.PrintWords Go.Proofs.YtkcfmbggdkkfeaaGreatDoorW.PrintLast Go.Proofs.YtkcfmbggdkkfeaaGreatDoorW.PrintMore

def parentP (s : ByteArray) : ByteArray × ByteArray × Bool :=
  if (splitP s).2 = true then (if (splitP s).1.length = 0 then (⟨#[]⟩, ⟨#[]⟩, false) else (joinQ ((splitP s).1.take ((splitP s).1.length - 1)), (splitP s).1.getD ((splitP s).1.length - 1) ⟨#[]⟩, true)) else (⟨#[]⟩, ⟨#[]⟩, false)
theorem impl_parent (s : ByteArray) (hs : s.size ≤ 1048576) : Ev (fun k => impl_ParentOf.f k s) (parentP s) := by
  unfold impl_ParentOf.f parentP
  refine Ev.bind (impl_split s hs) ?_
  obtain ⟨h1, h2⟩ := splitP_size s
  generalize splitP s = p at *
  refine evI (fun c => ?_) (fun _ => Ev.now _)
  by_cases c0 : p.1.length = 0
  · exact evP (by omega) (evC (Ev.now _) (by rw [if_pos c0]))
  · have ht := strSz_take p.1 (p.1.length - 1)
    have hw : wrap64 ((p.1.length : Int) - 1) = ((p.1.length - 1 : Nat) : Int) := by rw [w64 (by omega) (by omega)]; omega
    simp only [hw, Int.toNat_natCast]
    refine evN (by omega) (evP (by omega) (evP (by omega) (Ev.bind (impl_joinQ _ (by rw [List.length_take]; omega) (by omega)) (evP (by omega) (evC (Ev.now _) ?_)))))
    rw [if_neg c0]
    rfl
end Go.Proofs.YtkcfmbggdkkfeaaGreatDoor.Q
namespace Go.Proofs.YtkcfmbggdkkfeaaGreatDoor.Q
open Go.RowKit Go.Proofs.YtkcfmbggdkkfeaaGreatDoor.P Go.Proofs.YtkcfmbggdkkfeaaGreatDoorW.PrintWords Go.Proofs.YtkcfmbggdkkfeaaGreatDoorW.PrintLast Go.Proofs.YtkcfmbggdkkfeaaGreatDoorW.PrintMore

theorem InoT.a {x : S51} (h : InoT x) : InoA x := ⟨h.d, h.e, h.t⟩
def readyP (T : List S51) (nx : Int) (ps : List ByteArray) : Bool := ps.all (fun p => (splitP p).2) && treeOk T nx
theorem impl_rdy (T : List S51) (nx : Int) (ps : List ByteArray) (hT : T.length ≤ 1048576) (hs : ∀ x ∈ T, InoT x) (hp : ∀ p ∈ ps, p.size ≤ 1048576) (hn : ps.length ≤ 1048576) : Ev (fun k => impl_ready.f k T nx ps) (readyP T nx ps) := by
  have key := down (n := ps.length) (P := fun i => Ev (fun k => impl_ready.l0 k ps (ps.length : Int) (i : Nat) T nx) ((ps.drop i).all (fun p => (splitP p).2) && treeOk T nx)) (by
      apply evPre
      simp only [impl_ready.l0, List.drop_length]
      exact evN (by omega) (Ev.bind (impl_treeOk T nx hT hs) (evC (Ev.now _) (by simp)))) (fun i hi h => by
      have hrd : rdOf ByteArray.empty ps (i : Int) = ps[i] := getD_at ps _ i hi
      apply evPre
      simp only [impl_ready.l0, hrd]
      rw [nxt i ps.length hi (by omega), List.drop_eq_getElem_cons hi, List.all_cons]
      refine evP (by omega) (evP (by omega) (evP (by omega) (Ev.bind (impl_split _ (hp _ (List.getElem_mem hi))) ?_)))
      by_cases c : (splitP ps[i]).2 = true
      · exact evP c (evC h (by rw [c, Bool.true_and]))
      · exact evN c (evC (Ev.now _) (by rw [show (splitP ps[i]).2 = false by simpa using c]; rfl)))
  simpa [impl_ready.f, readyP] using key
/-- The directory of a path and its last name, and a code. -/
def spotP (T : List S51) (p : ByteArray) : S51 × ByteArray × Int :=
  let q := parentP p
  let s := statP T q.1
  if s.2 = 0 then (if s.1.f1 = 2 then (s.1, q.2.1, 0) else (ino0, ⟨#[]⟩, 3)) else (ino0, ⟨#[]⟩, s.2)
theorem goodSz (l : List ByteArray) (h : goodPath l = true) : strSz l ≤ 420 ∧ l.length ≤ 30 := by
  unfold goodPath at h
  simp only [Bool.and_eq_true, decide_eq_true_eq, List.all_eq_true] at h
  obtain ⟨h1, h2⟩ := h
  have key : ∀ m : List ByteArray, (∀ x ∈ m, nameOk x = true) → strSz m ≤ 14 * m.length := by
    intro m
    induction m with
    | nil => intro _; simp [strSz]
    | cons x m ih =>
      intro hm
      have := (name_no x (hm x (List.mem_cons_self ..))).2.2
      have := ih (fun y hy => hm y (List.mem_cons_of_mem _ hy))
      simp only [strSz, List.map_cons, List.sum_cons, List.length_cons] at this ⊢
      omega
  have := key l h1
  omega
theorem joinQ_small (l : List ByteArray) : (joinQ l).size ≤ 1048576 := by
  by_cases c : goodPath l = true
  · rw [joinQ_size l c]; have := goodSz l c; omega
  · unfold joinQ; split
    · decide
    · decide
theorem parentP_size (p : ByteArray) : (parentP p).1.size ≤ 1048576 := by
  unfold parentP
  split
  · split
    · decide
    · exact joinQ_small _
  · decide
def spotT (s : S51 × ByteArray × Int) : Int × Int × Int × List Int × List S65 × List S71 × ByteArray × Int := (s.1.f0, s.1.f1, s.1.f2, s.1.f3, s.1.f4, s.1.f5, s.2.1, s.2.2)
theorem impl_spot (T : List S51) (nx : Int) (p : ByteArray) (hT : T.length ≤ 1048576) (hs : ∀ x ∈ T, InoA x) (hp : p.size ≤ 1048576) : Ev (fun k => impl_spotOf.f k T nx p) (spotT (spotP T p)) := by
  unfold impl_spotOf.f
  refine Ev.bind (impl_parent p hp) (Ev.bind (impl_stat T nx _ hT hs (parentP_size p)) ?_)
  simp only [spotP, tup]
  by_cases c1 : (statP T (parentP p).1).2 = 0
  · refine evP c1 ?_
    rw [if_pos c1]
    by_cases c2 : (statP T (parentP p).1).1.f1 = 2
    · exact evP c2 (evC (Ev.now _) (by rw [if_pos c2]; rfl))
    · exact evN c2 (evC (Ev.now _) (by rw [if_neg c2]; rfl))
  · exact evN c1 (evC (Ev.now _) (by rw [if_neg c1]; rfl))
theorem spotP_small (T : List S51) (p : ByteArray) (hs : ∀ x ∈ T, InoA x) : InoA (spotP T p).1 := by
  have h0 : InoA ino0 := ⟨by decide, by decide, by decide⟩
  unfold spotP
  dsimp only
  split
  · split
    · exact statP_small T _ hs
    · exact h0
  · exact h0
theorem statP_mem (T : List S51) (p : ByteArray) : (statP T p).1 = ino0 ∨ (statP T p).1 ∈ T := by
  unfold statP
  split
  · split
    · right
      rename_i h1 h2
      show inoAt T (walkP T p).1 ∈ T
      unfold inoAt
      unfold isAt at h2
      have h2 := of_decide_eq_true h2
      rw [if_neg (by omega)]
      rcases place_range (walkP T p).1 T 0 with h | h
      · omega
      · obtain ⟨n, hn⟩ : ∃ n : Nat, placeR (walkP T p).1 T 0 = n := ⟨(placeR (walkP T p).1 T 0).toNat, by omega⟩
        rw [hn] at h ⊢
        have hrd : rd_T51 T (n : Int) = T[n]'(by omega) := getD_at T _ n (by omega)
        rw [hrd]
        exact List.getElem_mem _
    · exact .inl rfl
  · exact .inl rfl
def insE (nm : ByteArray) (ino : Int) (l : List S65) : List S65 := l.take (posN nm l) ++ [⟨nm, ino⟩] ++ l.drop (posN nm l)
theorem posN_le (nm : ByteArray) (l : List S65) : posN nm l ≤ l.length := by
  unfold posN
  rcases gtN_spec nm l 0 with h | ⟨i, h, hi⟩
  · rw [h]; simp
  · rw [h]; split <;> omega
theorem insE_length (nm : ByteArray) (ino : Int) (l : List S65) : (insE nm ino l).length = l.length + 1 := by
  have := posN_le nm l
  simp only [insE, List.length_append, List.length_take, List.length_drop, List.length_singleton]
  omega
def withE (x : S51) (e : List S65) : S51 := ⟨x.f0, x.f1, x.f2, x.f3, e, x.f5⟩
def withD (x : S51) (d : List Int) : S51 := ⟨x.f0, x.f1, x.f2, d, x.f4, x.f5⟩
theorem impl_enter (x : S51) (nm : ByteArray) (T : List S51) (nx ino : Int) (hT : T.length ≤ 1048576) (hs : ∀ x ∈ T, InoA x) (hx : InoA x) (he : x.f4.length < 1048576) :
    Ev (fun k => impl_spot_enter.f k x.f0 x.f1 x.f2 x.f3 x.f4 x.f5 nm T nx ino) (setP (withE x (insE nm ino x.f4)) T, nx) := by
  have b : slices_Clone_Ent.f x.f4 = some x.f4 := by unfold slices_Clone_Ent.f; have := hx.e; simp; omega
  unfold impl_spot_enter.f
  simp only [b, Option.bind_some]
  refine evP ⟨posN_le _ _, by omega, by omega⟩ ?_
  exact impl_set T nx (withE x (insE nm ino x.f4)) hT hs ⟨hx.d, by show (insE nm ino x.f4).length ≤ 1048576; rw [insE_length]; omega, hx.t⟩
def makeP (T : List S51) (nx : Int) (p : ByteArray) (kind : Int) : List S51 × Int × Int :=
  if readyP T nx [p] = true ∧ p.toList ≠ ([47] : List UInt8) then
    (if (spotP T p).2.2 = 0 then
      (if entOf (spotP T p).2.1 (spotP T p).1.f4 = 0 then
        (if (spotP T p).1.f4.length = 10 ∨ T.length = 30 ∨ nx = 1000 then (T, nx, 5)
         else (setP ⟨nx, kind, 1, [], [], []⟩ (setP (withE (spotP T p).1 (insE (spotP T p).2.1 nx (spotP T p).1.f4)) T), nx + 1, 0))
       else (T, nx, 4))
     else (T, nx, (spotP T p).2.2))
  else (T, nx, 1)
theorem impl_make (T : List S51) (nx : Int) (p : ByteArray) (kind : Int) (hT : T.length < 1048576) (hs : ∀ x ∈ T, InoT x) (hp : p.size ≤ 1048576) (he : ∀ x ∈ T, x.f4.length < 1048576) (hn : -1048576 ≤ nx ∧ nx ≤ 1048576) : Ev (fun k => impl_makeAt.f k T nx p kind) (makeP T nx p kind) := by
  have hA : ∀ x ∈ T, InoA x := fun x hx => (hs x hx).a
  unfold impl_makeAt.f
  refine Ev.bind (impl_copy_tab T nx (by omega) hA) (Ev.bind (impl_rdy T nx [p] (by omega) hs (fun q hq => by rw [List.mem_singleton.1 hq]; exact hp) (by simp)) ?_)
  unfold makeP
  have one : ∀ b : Bool, b = true → Ev (fun k => impl_makeAt.j0 k p kind b T nx) (T, nx, 1) := by
    rintro _ rfl
    apply evPre
    simp only [impl_makeAt.j0]
    exact evP trivial (Ev.now _)
  by_cases c1 : readyP T nx [p] = true
  · refine evP c1 ?_
    by_cases c2 : p.toList = ([47] : List UInt8)
    · rw [if_neg (fun h => h.2 c2)]
      exact one _ (by simpa using c2)
    · rw [if_pos ⟨c1, c2⟩]
      have hsm := spotP_small T p hA
      have hse : (spotP T p).1.f4.length < 1048576 := by
        unfold spotP
        dsimp only
        split
        · split
          · rcases statP_mem T (parentP p).1 with h | h
            · rw [h]; decide
            · exact he _ h
          · show ino0.f4.length < 1048576; decide
        · show ino0.f4.length < 1048576; decide
      apply evPre
      simp only [impl_makeAt.j0]
      refine evN (by simpa using c2) (Ev.bind (impl_spot T nx p (by omega) hA hp) ?_)
      simp only [spotT]
      generalize spotP T p = s at *
      by_cases c3 : s.2.2 = 0
      · refine evP c3 ?_
        rw [if_pos c3]
        refine Ev.bind (impl_entOf s.1.f0 s.1.f1 s.1.f2 s.1.f3 s.1.f4 s.1.f5 s.2.1 (by omega)) ?_
        by_cases c4 : entOf s.2.1 s.1.f4 = 0
        · refine evP c4 ?_
          rw [if_pos c4]
          have full : ∀ b : Bool, b = true → Ev (fun k => impl_makeAt.j1 k kind b T nx s.1.f0 s.1.f1 s.1.f2 s.1.f3 s.1.f4 s.1.f5 s.2.1) (T, nx, 5) := by
            rintro _ rfl
            apply evPre
            simp only [impl_makeAt.j1]
            exact evP trivial (Ev.now _)
          have hw : wrap64 (nx + 1) = nx + 1 := w64 (by omega) (by omega)
          have go : ¬ nx = 1000 → Ev (fun k => impl_makeAt.j1 k kind (nx == 1000) T nx s.1.f0 s.1.f1 s.1.f2 s.1.f3 s.1.f4 s.1.f5 s.2.1) (setP ⟨nx, kind, 1, [], [], []⟩ (setP (withE s.1 (insE s.2.1 nx s.1.f4)) T), nx + 1, 0) := by
            intro c7
            apply evPre
            simp only [impl_makeAt.j1, hw]
            refine evN (by simpa using c7) (Ev.bind (impl_enter s.1 s.2.1 T (nx + 1) nx (by omega) hA hsm hse) ?_)
            have hl := setP_length (withE s.1 (insE s.2.1 nx s.1.f4)) T
            refine Ev.bind (impl_set (setP (withE s.1 (insE s.2.1 nx s.1.f4)) T) (nx + 1) ⟨nx, kind, 1, [], [], []⟩ (by omega) (fun x hx => ?_) ⟨Nat.zero_le _, Nat.zero_le _, Nat.zero_le _⟩) (Ev.now _)
            rcases mem_setP _ _ _ hx with rfl | hx
            · exact ⟨hsm.d, by show (insE s.2.1 nx s.1.f4).length ≤ 1048576; rw [insE_length]; omega, hsm.t⟩
            · exact hA x hx
          by_cases c5 : s.1.f4.length = 10
          · refine evP (by omega) ?_
            rw [if_pos (.inl c5)]
            exact full _ rfl
          · refine evN (by omega) ?_
            by_cases c6 : T.length = 30
            · refine evP (by omega) ?_
              rw [if_pos (.inr (.inl c6))]
              exact full _ rfl
            · refine evN (by omega) ?_
              by_cases c7 : nx = 1000
              · rw [if_pos (.inr (.inr c7))]
                exact full _ (by simpa using c7)
              · rw [if_neg (by rintro (h | h | h); exact c5 h; exact c6 h; exact c7 h)]
                exact go c7
        · refine evN c4 (evC (Ev.now _) (by rw [if_neg c4]))
      · refine evN c3 (evC (Ev.now _) (by rw [if_neg c3]))
  · refine evN c1 ?_
    rw [if_neg (fun h => c1 h.1)]
    exact one _ rfl
theorem impl_mkFile (T : List S51) (nx : Int) (p : ByteArray) (hT : T.length < 1048576) (hs : ∀ x ∈ T, InoT x) (hp : p.size ≤ 1048576) (he : ∀ x ∈ T, x.f4.length < 1048576) (hn : -1048576 ≤ nx ∧ nx ≤ 1048576) : Ev (fun k => impl_MakeFile.f k T nx p) (makeP T nx p 1) := by
  unfold impl_MakeFile.f; exact Ev.bind (impl_make T nx p 1 hT hs hp he hn) (Ev.now _)
theorem impl_mkDir (T : List S51) (nx : Int) (p : ByteArray) (hT : T.length < 1048576) (hs : ∀ x ∈ T, InoT x) (hp : p.size ≤ 1048576) (he : ∀ x ∈ T, x.f4.length < 1048576) (hn : -1048576 ≤ nx ∧ nx ≤ 1048576) : Ev (fun k => impl_MakeDir.f k T nx p) (makeP T nx p 2) := by
  unfold impl_MakeDir.f; exact Ev.bind (impl_make T nx p 2 hT hs hp he hn) (Ev.now _)
/-- The file at a path, and a code. -/
def fileP (T : List S51) (p : ByteArray) : S51 × Int := if (statP T p).2 = 0 ∧ (statP T p).1.f1 ≠ 1 then ((statP T p).1, 3) else statP T p
theorem impl_file (T : List S51) (nx : Int) (p : ByteArray) (hT : T.length ≤ 1048576) (hs : ∀ x ∈ T, InoA x) (hp : p.size ≤ 1048576) : Ev (fun k => impl_fileAt.f k T nx p) (tup (fileP T p)) := by
  unfold impl_fileAt.f
  refine Ev.bind (impl_stat T nx p hT hs hp) ?_
  unfold fileP
  simp only [tup]
  by_cases c1 : (statP T p).2 = 0
  · refine evP c1 ?_
    by_cases c2 : (statP T p).1.f1 = 1
    · exact evP c2 (evC (Ev.now _) (by rw [if_neg (fun h => h.2 c2)]))
    · exact evN c2 (evC (Ev.now _) (by rw [if_pos ⟨c1, c2⟩]))
  · exact evN c1 (evC (Ev.now _) (by rw [if_neg (fun h => c1 h.1)]))
theorem fileP_small (T : List S51) (p : ByteArray) (hs : ∀ x ∈ T, InoA x) : InoA (fileP T p).1 := by
  unfold fileP
  split
  · exact statP_small T p hs
  · exact statP_small T p hs
def sizeD (d : List Int) (n : Nat) : List Int := d.take (min d.length n) ++ (List.replicate n 0).drop (min d.length n)
theorem sizeD_length (d : List Int) (n : Nat) : (sizeD d n).length = n := by
  simp only [sizeD, List.length_append, List.length_take, List.length_drop, List.length_replicate]; omega
def putD (d : List Int) (o : Nat) (x : List Int) : List Int := (sizeD d (max d.length (o + x.length))).take o ++ x ++ (sizeD d (max d.length (o + x.length))).drop (o + x.length)
def writeP (T : List S51) (nx : Int) (p : ByteArray) (o : Int) (x : List Int) : List S51 × Int × Int :=
  if readyP T nx [p] = true ∧ (0 ≤ o ∧ o ≤ 100) then
    (if (fileP T p).2 = 0 then
      (if o + (x.length : Int) > 100 then (T, nx, 5)
       else (setP (withD (fileP T p).1 (putD (fileP T p).1.f3 o.toNat x)) T, nx, 0))
     else (T, nx, (fileP T p).2))
  else (T, nx, 1)
theorem impl_write (T : List S51) (nx : Int) (p : ByteArray) (o : Int) (x : List Int) (hT : T.length ≤ 1048576) (hs : ∀ x ∈ T, InoT x) (hp : p.size ≤ 1048576) (hx : x.length ≤ 1048576) : Ev (fun k => impl_WriteAt.f k T nx p o x) (writeP T nx p o x) := by
  have hA : ∀ x ∈ T, InoA x := fun x hx => (hs x hx).a
  unfold impl_WriteAt.f
  refine Ev.bind (impl_copy_tab T nx hT hA) (Ev.bind (impl_rdy T nx [p] hT hs (fun q hq => by rw [List.mem_singleton.1 hq]; exact hp) (by simp)) ?_)
  unfold writeP
  dsimp only
  by_cases c1 : readyP T nx [p] = true ∧ (0 ≤ o ∧ o ≤ 100)
  · refine evP ⟨c1.1, decide_eq_true c1.2⟩ ?_
    rw [if_pos c1]
    refine Ev.bind (impl_file T nx p hT hA hp) ?_
    have hf := fileP_small T p hA
    simp only [tup]
    generalize fileP T p = s at *
    by_cases c2 : s.2 = 0
    · refine evP c2 (evP (by omega) ?_)
      rw [if_pos c2]
      by_cases c3 : o + (x.length : Int) > 100
      · refine evP c3 (evC (Ev.now _) (by rw [if_pos c3]))
      · refine evN c3 ?_
        rw [if_neg c3]
        have hm : max (s.1.f3.length : Int) (o + (x.length : Int)) = ((max s.1.f3.length (o.toNat + x.length) : Nat) : Int) := by have := c1.2; omega
        have hsz : impl_sized.f s.1.f3 (max (s.1.f3.length : Int) (o + (x.length : Int))) = some (sizeD s.1.f3 (max s.1.f3.length (o.toNat + x.length))) := by
          unfold impl_sized.f
          have := hf.d
          rw [hm, if_pos ⟨by omega, by omega⟩, Int.toNat_natCast]
          rfl
        have hl := sizeD_length s.1.f3 (max s.1.f3.length (o.toNat + x.length))
        have hd := hf.d
        have ho := c1.2
        simp only [hsz, Option.bind_some]
        refine Ev.bind (impl_set T nx (withD s.1 (putD s.1.f3 o.toNat x)) hT hA ⟨?_, hf.e, hf.t⟩) (Ev.now _)
        show (putD s.1.f3 o.toNat x).length ≤ 1048576
        simp only [putD, List.length_append, List.length_take, List.length_drop, hl]
        omega
    · exact evN c2 (evC (Ev.now _) (by rw [if_neg c2]))
  · refine evN (fun h => c1 ⟨h.1, of_decide_eq_true h.2⟩) (evC (Ev.now _) (by rw [if_neg c1]))
/-- A table that is small, as the kernel sees. -/
def smallI (x : S51) : Bool := decide (x.f3.length ≤ 1000) && decide (x.f4.length ≤ 1000) && decide (x.f5.length ≤ 1000) && x.f4.all (fun e => decide (e.f0.size ≤ 1000)) && x.f5.all (fun e => decide (e.f0.size ≤ 1000) && decide (e.f1.size ≤ 1000))
def smallT (T : List S51) : Bool := decide (T.length ≤ 1000) && T.all smallI
theorem smallT_spec (T : List S51) (h : smallT T = true) : T.length ≤ 1000 ∧ (∀ x ∈ T, InoT x) ∧ (∀ x ∈ T, x.f4.length < 1048576) := by
  simp only [smallT, smallI, Bool.and_eq_true, decide_eq_true_eq, List.all_eq_true] at h
  refine ⟨h.1, fun x hx => ?_, fun x hx => ?_⟩
  · obtain ⟨⟨⟨⟨h1, h2⟩, h3⟩, h4⟩, h5⟩ := h.2 x hx
    exact ⟨by omega, by omega, by omega, fun y hy => by have := h4 y hy; omega, fun y hy => by have := (h5 y hy).1; omega⟩
  · have := (h.2 x hx).1.1.1.2; omega
end Go.Proofs.YtkcfmbggdkkfeaaGreatDoor.Q
namespace Go.Proofs.YtkcfmbggdkkfeaaGreatDoor.Q
open Go.RowKit Go.Proofs.YtkcfmbggdkkfeaaGreatDoor.P Go.Proofs.YtkcfmbggdkkfeaaGreatDoorW.PrintWords Go.Proofs.YtkcfmbggdkkfeaaGreatDoorW.PrintLast Go.Proofs.YtkcfmbggdkkfeaaGreatDoorW.PrintMore
theorem at_ev (l : List Int) (i : Nat) (hb : ∀ x ∈ l, 0 ≤ x ∧ x ≤ 255) (hl : l.length ≤ 140737488351232) (hi : i ≤ 1000) : ∃ a, laws_at.f l (i : Int) = some a ∧ 0 ≤ a ∧ a ≤ 255 := by
  unfold laws_at.f
  by_cases c : (i : Int) < (l.length : Int)
  · have h := (show Byt l from hb).rd i
    refine ⟨rd l i, ?_, h.1, h.2⟩
    rw [if_pos c, if_pos (by omega), w64 (by omega) (by omega)]
  · have e1 : wrap64 ((i : Int) * 31) = (i : Int) * 31 := w64 (by omega) (by omega)
    have e2 : wrap64 ((l.length : Int) * 7) = (l.length : Int) * 7 := w64 (by omega) (by omega)
    have e3 : wrap64 ((i : Int) * 31 + (l.length : Int) * 7) = (i : Int) * 31 + (l.length : Int) * 7 := w64 (by omega) (by omega)
    refine ⟨Int.tmod ((i : Int) * 31 + (l.length : Int) * 7) 256, ?_, ?_, ?_⟩
    · rw [if_neg c, e1, e2, e3]
    · rw [Int.tmod_eq_emod_of_nonneg (by omega)]; omega
    · rw [Int.tmod_eq_emod_of_nonneg (by omega)]; omega
end Go.Proofs.YtkcfmbggdkkfeaaGreatDoor.Q
namespace Go.Proofs.YtkcfmbggdkkfeaaGreatDoor.Q
open Go.RowKit Go.Proofs.YtkcfmbggdkkfeaaGreatDoor.P Go.Proofs.YtkcfmbggdkkfeaaGreatDoorW.PrintWords Go.Proofs.YtkcfmbggdkkfeaaGreatDoorW.PrintLast Go.Proofs.YtkcfmbggdkkfeaaGreatDoorW.PrintMore

def bareI (x : S51) : S51 := withD x []
def bare (l : List S51) : List S51 := l.map bareI
def dataOk (x : S51) : Bool := decide (x.f3.length ≤ 100) && (!decide (x.f1 = 2) || decide (x.f3.length = 0))
theorem placeR_bare (n : Int) (l : List S51) : ∀ i : Nat, placeR n (bare l) i = placeR n l i := by
  induction l with
  | nil => intro i; rfl
  | cons x l ih => intro i; show (if x.f0 = n then _ else placeR n (bare l) (i + 1)) = _; rw [ih]; rfl
theorem isAt_bare (l : List S51) : isAt (bare l) = isAt l := by funext n; unfold isAt; rw [placeR_bare]
theorem rd_bare (l : List S51) (i : Int) : rd_T51 (bare l) i = bareI (rd_T51 l i) := by
  show (bare l).getD i.toNat _ = bareI (l.getD i.toNat _)
  unfold bare
  rw [List.getD_eq_getElem?_getD, List.getD_eq_getElem?_getD, List.getElem?_map]
  cases l[i.toNat]? <;> rfl
theorem inoAt_bare (l : List S51) (n : Int) : inoAt (bare l) n = bareI (inoAt l n) := by
  unfold inoAt
  rw [placeR_bare, rd_bare]
  split <;> rfl
theorem kidsI_bare (l : List S51) : kidsI (bare l) = kidsI l := by
  funext n; unfold kidsI; rw [isAt_bare, inoAt_bare]; rfl
theorem bare_length (l : List S51) : (bare l).length = l.length := List.length_map ..
theorem reachP_bare (l : List S51) : reachP (bare l) = reachP l := by unfold reachP; rw [isAt_bare, kidsI_bare, bare_length]
theorem linksOf_bare (n : Int) (l : List S51) : linksOf n (bare l) = linksOf n l := by
  unfold linksOf bare; rw [List.map_map]; rfl
theorem treeL_bare (l xs : List S51) : treeL (bare l) (bare xs) = treeL l xs := by
  unfold treeL
  unfold bare
  rw [List.all_map]
  congr 1
  funext x
  show (decide (x.f2 = (linksOf x.f0 (bare l) : Int)) && entsIn (bare l) x.f4) = _
  rw [linksOf_bare]
  unfold entsIn
  rw [isAt_bare]
theorem inOk_bare (x : S51) : inOk x = (inOk (bareI x) && dataOk x) := by
  unfold inOk inodeOk dataOk bareI withD kindOk
  dsimp only
  by_cases h2 : x.f1 = 2
  · by_cases h3 : x.f3.length = 0
    · simp [h2, h3]
    · simp [h2, h3]
  · by_cases h3 : x.f3.length ≤ 100
    · simp [h2, h3]
    · simp [h2, h3]
theorem tabR_bare (nx : Int) (l : List S51) : ∀ p, tabR nx p l = (tabR nx p (bare l) && l.all dataOk) := by
  induction l with
  | nil => intro p; rfl
  | cons x l ih =>
    intro p
    show (inOk x && decide (x.f0 < nx) && above p x.f0 && tabR nx (some x.f0) l) = (inOk (bareI x) && decide (x.f0 < nx) && above p x.f0 && tabR nx (some x.f0) (bare l) && (dataOk x && l.all dataOk))
    rw [ih, inOk_bare]
    cases inOk (bareI x) <;> cases dataOk x <;> cases (decide (x.f0 < nx)) <;> cases above p x.f0 <;> cases tabR nx (some x.f0) (bare l) <;> cases l.all dataOk <;> rfl
theorem tabOk_bare (l : List S51) (nx : Int) : tabOk l nx = (tabOk (bare l) nx && l.all dataOk) := by
  unfold tabOk headOk
  rw [bare_length, tabR_bare nx l none, rd_bare]
  show _ = (_ && _ && (_ && (decide ((rd_T51 l 0).f0 = 1) && ((rd_T51 l 0).f1 == 2))) && _)
  generalize (decide ((rd_T51 l 0).f0 = 1) && ((rd_T51 l 0).f1 == 2)) = a
  generalize decide (1 ≤ l.length ∧ l.length ≤ 30) = b
  generalize decide (2 ≤ nx ∧ nx ≤ 1000) = c
  generalize tabR nx none (bare l) = d
  generalize l.all dataOk = e
  cases a <;> cases b <;> cases c <;> cases d <;> cases e <;> rfl
theorem treeOk_bare (l : List S51) (nx : Int) : treeOk l nx = (treeOk (bare l) nx && l.all dataOk) := by
  unfold treeOk
  rw [tabOk_bare, reachP_bare, bare_length, treeL_bare]
  generalize tabOk (bare l) nx = a
  generalize l.all dataOk = b
  generalize (decide ((reachP l).length = l.length) && treeL l l) = c
  cases a <;> cases b <;> cases c <;> rfl
theorem dataOk_of (x : S51) (h : x.f3.length ≤ 100) (h2 : x.f1 ≠ 2 ∨ x.f3 = []) : dataOk x = true := by
  unfold dataOk
  rcases h2 with h2 | h2
  · simp [h, h2]
  · simp [h2]
end Go.Proofs.YtkcfmbggdkkfeaaGreatDoor.Q
namespace Go.Proofs.YtkcfmbggdkkfeaaGreatDoor.Q
open Go.RowKit Go.Proofs.YtkcfmbggdkkfeaaGreatDoor.P Go.Proofs.YtkcfmbggdkkfeaaGreatDoorW.PrintWords Go.Proofs.YtkcfmbggdkkfeaaGreatDoorW.PrintLast Go.Proofs.YtkcfmbggdkkfeaaGreatDoorW.PrintMore

/-- The table of laws.grown, whatever its files hold. -/
def gT (a b c : List Int) : List S51 :=
  [⟨1, 2, 0, [], [⟨⟨#[100, 105, 114]⟩, 2⟩, ⟨⟨#[116, 111, 112]⟩, 5⟩], []⟩, ⟨2, 2, 1, [], [⟨⟨#[111, 110, 101]⟩, 3⟩, ⟨⟨#[116, 119, 111]⟩, 4⟩], []⟩,
   ⟨3, 1, 1, a, [], []⟩, ⟨4, 1, 1, b, [], []⟩, ⟨5, 1, 1, c, [], []⟩]
def pDir : ByteArray := ⟨#[47, 100, 105, 114]⟩
def pOne : ByteArray := ⟨#[47, 100, 105, 114, 47, 111, 110, 101]⟩
def pTwo : ByteArray := ⟨#[47, 100, 105, 114, 47, 116, 119, 111]⟩
def pTop : ByteArray := ⟨#[47, 116, 111, 112]⟩
def g0 : List S51 := [(⟨1, 2, 0, ([] : List Int), ([] : List S65), ([] : List S71)⟩ : S51)]
def okT (m : List S51 × Int × Int) : Bool := smallT m.1 && decide (-1048576 ≤ m.2.1 ∧ m.2.1 ≤ 1048576)
theorem okT_spec (m : List S51 × Int × Int) (h : okT m = true) : m.1.length ≤ 1000 ∧ (∀ x ∈ m.1, InoT x) ∧ (∀ x ∈ m.1, x.f4.length < 1048576) ∧ (-1048576 ≤ m.2.1 ∧ m.2.1 ≤ 1048576) := by
  simp only [okT, Bool.and_eq_true, decide_eq_true_eq] at h
  obtain ⟨h1, h2, h3⟩ := smallT_spec _ h.1
  exact ⟨h1, h2, h3, h.2⟩
def gm1 := makeP g0 2 pDir 2
def gm2 (m : List S51 × Int × Int) := makeP m.1 m.2.1 pOne 1
def gm3 (m : List S51 × Int × Int) := makeP m.1 m.2.1 pTwo 1
def gm4 (m : List S51 × Int × Int) := makeP m.1 m.2.1 pTop 1
set_option maxRecDepth 100000 in
theorem gm_all : okT (g0, 2, 0) = true ∧ (okT gm1 = true ∧ gm1.2.2 = 0) ∧ (okT (gm2 gm1) = true ∧ (gm2 gm1).2.2 = 0) ∧ (okT (gm3 (gm2 gm1)) = true ∧ (gm3 (gm2 gm1)).2.2 = 0) := by decide +kernel
set_option maxRecDepth 100000 in
theorem gm_last : gm4 (gm3 (gm2 gm1)) = (gT [] [] [], 6, 0) := by kernel_rfl
theorem putD_nil (o : Nat) (x : List Int) : putD [] o x = List.replicate o 0 ++ x := by
  have h : sizeD [] (max ([] : List Int).length (o + x.length)) = List.replicate (o + x.length) 0 := by simp [sizeD]
  unfold putD
  rw [h]
  simp
theorem writeP_at (T : List S51) (nx : Int) (p : ByteArray) (o : Nat) (x : List Int) (f : S51) (hr : readyP T nx [p] = true) (hf : fileP T p = (f, 0)) (ho : o + x.length ≤ 100) :
    writeP T nx p o x = (setP (withD f (putD f.f3 o x)) T, nx, 0) := by
  unfold writeP
  rw [if_pos ⟨hr, by omega, by omega⟩, hf, if_pos rfl, if_neg (by omega), Int.toNat_natCast]
theorem gT_ready (a b c : List Int) (ha : a.length ≤ 100) (hb : b.length ≤ 100) (hc : c.length ≤ 100) (ps : List ByteArray) (hp : ps.all (fun p => (splitP p).2) = true) : readyP (gT a b c) 6 ps = true := by
  have h : treeOk (bare (gT a b c)) 6 = true := by kernel_rfl
  have d : (gT a b c).all dataOk = true := by
    unfold gT
    simp only [List.all_cons, List.all_nil, Bool.and_true, Bool.and_eq_true]
    exact ⟨rfl, rfl, dataOk_of _ ha (.inl (show (1 : Int) ≠ 2 by decide)), dataOk_of _ hb (.inl (show (1 : Int) ≠ 2 by decide)), dataOk_of _ hc (.inl (show (1 : Int) ≠ 2 by decide))⟩
  unfold readyP
  rw [treeOk_bare, h, d, hp]; rfl
theorem gT_small (a b c : List Int) (ha : a.length ≤ 100) (hb : b.length ≤ 100) (hc : c.length ≤ 100) : (gT a b c).length ≤ 1000 ∧ (∀ x ∈ gT a b c, InoT x) ∧ (∀ x ∈ gT a b c, x.f4.length < 1048576) := by
  apply smallT_spec
  have e : ∀ x : S51, smallI x = (decide (x.f3.length ≤ 1000) && smallI (bareI x)) := by
    intro x; unfold smallI bareI withD; dsimp only; rw [show decide (([] : List Int).length ≤ 1000) = true by decide, Bool.true_and]; simp only [Bool.and_assoc]
  have h : (bare (gT a b c)).all smallI = true := by kernel_rfl
  have d : ∀ x ∈ gT a b c, x.f3.length ≤ 1000 := by
    intro x hx
    simp only [gT, List.mem_cons, List.not_mem_nil, or_false] at hx
    rcases hx with rfl | rfl | rfl | rfl | rfl
    · exact Nat.zero_le _
    · exact Nat.zero_le _
    · exact Nat.le_trans ha (by decide)
    · exact Nat.le_trans hb (by decide)
    · exact Nat.le_trans hc (by decide)
  unfold smallT
  rw [Bool.and_eq_true]
  refine ⟨rfl, ?_⟩
  rw [List.all_eq_true] at h ⊢
  intro x hx
  rw [e, h _ (List.mem_map_of_mem hx), decide_eq_true (d x hx)]; rfl
theorem one_fileP (a b c : List Int) : fileP (gT a b c) pOne = (⟨3, 1, 1, a, [], []⟩, 0) := by kernel_rfl
theorem top_fileP (a b c : List Int) : fileP (gT a b c) pTop = (⟨5, 1, 1, c, [], []⟩, 0) := by kernel_rfl
theorem p_split : [pOne].all (fun p => (splitP p).2) = true ∧ [pTwo].all (fun p => (splitP p).2) = true ∧ [pTop].all (fun p => (splitP p).2) = true := by decide +kernel
theorem grown_ev (l : List Int) (hb : ∀ x ∈ l, 0 ≤ x ∧ x ≤ 255) (hl : l.length ≤ 140737488351232) : ∃ (a : Int) (n : Nat), laws_at.f l 2 = some a ∧ 0 ≤ a ∧ a ≤ 255 ∧ n < 50 ∧ Ev (fun k => laws_grown.f k l) (gT [a, 7] [] (List.replicate n 0 ++ [101, 110, 100]), 6, true) := by
  obtain ⟨a, ha, ha0, ha1⟩ := at_ev l 2 hb hl (by omega)
  obtain ⟨b, hb', hb0, hb1⟩ := at_ev l 3 hb hl (by omega)
  rw [show ((2 : Nat) : Int) = 2 from rfl] at ha
  rw [show ((3 : Nat) : Int) = 3 from rfl] at hb'
  obtain ⟨n, hn⟩ : ∃ n : Nat, Int.tmod b 50 = n := ⟨(Int.tmod b 50).toNat, by rw [Int.tmod_eq_emod_of_nonneg hb0]; omega⟩
  have hn50 : n < 50 := by rw [Int.tmod_eq_emod_of_nonneg hb0] at hn; omega
  refine ⟨a, n, ha, ha0, ha1, hn50, ?_⟩
  have ha8 : a % 256 = a := Int.emod_eq_of_lt ha0 (by omega)
  obtain ⟨s0, ⟨s1, t1⟩, ⟨s2, t2⟩, s3, t3⟩ := gm_all
  have last := gm_last
  unfold laws_grown.f
  simp only [impl_TabNew.f, Option.bind_some, ha, hb', ha8, hn]
  obtain ⟨b0, d0, e0, n0⟩ := okT_spec _ s0
  obtain ⟨b1, d1, e1, n1⟩ := okT_spec _ s1
  obtain ⟨b2, d2, e2, n2⟩ := okT_spec _ s2
  obtain ⟨b3, d3, e3, n3⟩ := okT_spec _ s3
  have z1 : pDir.size ≤ 1048576 := by decide
  have z2 : pOne.size ≤ 1048576 := by decide
  have z3 : pTwo.size ≤ 1048576 := by decide
  have z4 : pTop.size ≤ 1048576 := by decide
  refine Ev.bind (a := gm1) (impl_mkDir g0 2 pDir (by have : g0.length ≤ 1000 := b0; omega) d0 z1 e0 n0) ?_
  generalize gm1 = m1 at *
  refine Ev.bind (a := gm2 m1) (impl_mkFile m1.1 m1.2.1 pOne (by omega) d1 z2 e1 n1) ?_
  generalize gm2 m1 = m2 at *
  refine Ev.bind (a := gm3 m2) (impl_mkFile m2.1 m2.2.1 pTwo (by omega) d2 z3 e2 n2) ?_
  generalize gm3 m2 = m3 at *
  refine Ev.bind (a := gm4 m3) (impl_mkFile m3.1 m3.2.1 pTop (by omega) d3 z4 e3 n3) ?_
  rw [last]
  have y1 : ([] : List Int).length ≤ 100 := by decide
  have y2 : [a, 7].length ≤ 100 := by simp
  obtain ⟨b4, d4, e4⟩ := gT_small [] [] [] y1 y1 y1
  obtain ⟨b5, d5, e5⟩ := gT_small [a, 7] [] [] y2 y1 y1
  have q1 : writeP (gT [] [] []) 6 pOne ((0 : Nat) : Int) [a, 7] = (gT [a, 7] [] [], 6, 0) := by
    rw [writeP_at _ _ _ _ _ _ (gT_ready [] [] [] y1 y1 y1 [pOne] p_split.1) (one_fileP ..) (by simp), putD_nil]
    kernel_rfl
  have q2 : writeP (gT [a, 7] [] []) 6 pTop (n : Int) [101, 110, 100] = (gT [a, 7] [] (List.replicate n 0 ++ [101, 110, 100]), 6, 0) := by
    rw [writeP_at _ _ _ _ _ _ (gT_ready [a, 7] [] [] y2 y1 y1 [pTop] p_split.2.2) (top_fileP ..) (by simp; omega), putD_nil]
    generalize List.replicate n (0 : Int) ++ [101, 110, 100] = z
    kernel_rfl
  refine Ev.bind (impl_write (gT [] [] []) 6 pOne ((0 : Nat) : Int) [a, 7] (by omega) d4 z2 (by simp)) ?_
  rw [q1]
  refine Ev.bind (impl_write (gT [a, 7] [] []) 6 pTop (n : Int) [101, 110, 100] (by omega) d5 z4 (by simp)) ?_
  rw [q2]
  exact evP t1 (evP t2 (evP t3 (evP rfl (evP rfl (evP rfl (Ev.now _))))))
end Go.Proofs.YtkcfmbggdkkfeaaGreatDoor.Q
namespace Go.Proofs.YtkcfmbggdkkfeaaGreatDoor.Q
open Go.RowKit Go.Proofs.YtkcfmbggdkkfeaaGreatDoor.P Go.Proofs.YtkcfmbggdkkfeaaGreatDoorW.PrintWords Go.Proofs.YtkcfmbggdkkfeaaGreatDoorW.PrintLast Go.Proofs.YtkcfmbggdkkfeaaGreatDoorW.PrintMore

end Go.Proofs.YtkcfmbggdkkfeaaGreatDoor.Q
namespace Go.Proofs.YtkcfmbggdkkfeaaGreatDoor.Q
open Go.RowKit Go.Proofs.YtkcfmbggdkkfeaaGreatDoor.P Go.Proofs.YtkcfmbggdkkfeaaGreatDoorW.PrintWords Go.Proofs.YtkcfmbggdkkfeaaGreatDoorW.PrintLast Go.Proofs.YtkcfmbggdkkfeaaGreatDoorW.PrintMore

def sh (x : S51) : Int × List Int := (x.f1, x.f3)
def dOk (q : Int × List Int) : Bool := decide (q.2.length ≤ 100) && (!decide (q.1 = 2) || decide (q.2.length = 0))
def chk (T : List S51) : Bool := treeOk (bare T) 6 && smallT (bare T)
structure Fit (T : List S51) : Prop where
  r : ∀ ps : List ByteArray, ps.all (fun p => (splitP p).2) = true → readyP T 6 ps = true
  t : treeOk T 6 = true
  l : T.length ≤ 1000
  s : ∀ x ∈ T, InoT x
  e : ∀ x ∈ T, x.f4.length < 1048576
theorem fit (T : List S51) (L : List (Int × List Int)) (h : T.map sh = L) (hL : L.all dOk = true) (hc : chk T = true) : Fit T := by
  simp only [chk, Bool.and_eq_true] at hc
  have hd : T.all dataOk = true := by rw [← h, List.all_map] at hL; exact hL
  have ht : treeOk T 6 = true := by rw [treeOk_bare, hc.1, hd]; rfl
  have hs : smallT T = true := by
    have h2 := hc.2
    simp only [smallT, Bool.and_eq_true, bare, List.length_map, List.all_map, List.all_eq_true] at h2 ⊢
    refine ⟨h2.1, fun x hx => ?_⟩
    have h3 := h2.2 x hx
    have h4 := List.all_eq_true.1 hd x hx
    simp only [dataOk, Bool.and_eq_true, decide_eq_true_eq] at h4
    have h5 := h4.1
    simp only [Function.comp, smallI, bareI, withD, Bool.and_eq_true] at h3 ⊢
    exact ⟨⟨⟨⟨decide_eq_true (by omega), h3.1.1.1.2⟩, h3.1.1.2⟩, h3.1.2⟩, h3.2⟩
  obtain ⟨a, b, c⟩ := smallT_spec T hs
  exact ⟨fun ps hp => by unfold readyP; rw [hp, ht]; rfl, ht, a, b, c⟩
theorem dOk5 (d z : List Int) (hd : d.length ≤ 100) (hz : z.length ≤ 100) : [((2 : Int), ([] : List Int)), (2, []), (1, d), (1, []), (1, z)].all dOk = true ∧ [((2 : Int), ([] : List Int)), (2, []), (1, d), (1, [])].all dOk = true := by
  simp [dOk, hd, hz]
theorem tmod_nat (b : Int) (m : Nat) (h0 : 0 ≤ b) (hm : 0 < m) : ∃ i : Nat, Int.tmod b (m : Int) = i ∧ i < m := by
  refine ⟨(Int.tmod b m).toNat, ?_, ?_⟩
  · rw [Int.tmod_eq_emod_of_nonneg h0]; exact (Int.toNat_of_nonneg (Int.emod_nonneg _ (by omega))).symm
  · rw [Int.tmod_eq_emod_of_nonneg h0]; have := Int.emod_lt_of_pos b (show (0 : Int) < m by omega); have := Int.emod_nonneg b (show (m : Int) ≠ 0 by omega); omega
end Go.Proofs.YtkcfmbggdkkfeaaGreatDoor.Q
namespace Go.Proofs.YtkcfmbggdkkfeaaGreatDoor.Q
open Go.RowKit Go.Proofs.YtkcfmbggdkkfeaaGreatDoor.P Go.Proofs.YtkcfmbggdkkfeaaGreatDoorW.PrintWords Go.Proofs.YtkcfmbggdkkfeaaGreatDoorW.PrintLast Go.Proofs.YtkcfmbggdkkfeaaGreatDoorW.PrintMore

def attrUse (t : List S71) : Nat := (t.map fun a => a.f0.size + a.f1.size).sum
def inoUse (x : S51) : Nat := 32 + x.f3.length + attrUse x.f5
def usage (l : List S51) : Nat := (l.map inoUse).sum
theorem attrUse_drop (t : List S71) (j : Nat) (hj : j < t.length) : attrUse (t.drop j) = t[j].f0.size + t[j].f1.size + attrUse (t.drop (j + 1)) := by
  unfold attrUse; rw [List.drop_eq_getElem_cons hj, List.map_cons, List.sum_cons]
theorem usage_drop (l : List S51) (j : Nat) (hj : j < l.length) : usage (l.drop j) = inoUse l[j] + usage (l.drop (j + 1)) := by
  unfold usage; rw [List.drop_eq_getElem_cons hj, List.map_cons, List.sum_cons]
theorem impl_use_in (L : List S51) (M : Int) (t : List S71) (i R : Int) (ht : t.length ≤ 4611686018427387904) (acc : Nat) (hb : acc + attrUse t ≤ 4611686018427387904)
    (h : Ev (fun k => impl_UsageOf.l0 k ((acc + attrUse t : Nat) : Int) L M (wrap64 (i + 1))) R) : Ev (fun k => impl_UsageOf.l1 k (acc : Int) L M i t (t.length : Int) 0) R := by
  have key : ∀ acc : Nat, acc + attrUse (t.drop 0) ≤ 4611686018427387904 → Ev (fun k => impl_UsageOf.l0 k ((acc + attrUse (t.drop 0) : Nat) : Int) L M (wrap64 (i + 1))) R → Ev (fun k => impl_UsageOf.l1 k (acc : Int) L M i t (t.length : Int) (0 : Nat)) R := by
    refine down (n := t.length) (P := fun j => ∀ acc : Nat, acc + attrUse (t.drop j) ≤ 4611686018427387904 → Ev (fun k => impl_UsageOf.l0 k ((acc + attrUse (t.drop j) : Nat) : Int) L M (wrap64 (i + 1))) R → Ev (fun k => impl_UsageOf.l1 k (acc : Int) L M i t (t.length : Int) (j : Nat)) R) ?_ (fun j hj ih => ?_)
    · intro acc _ h
      rw [List.drop_length] at h
      apply evPre
      simp only [impl_UsageOf.l1]
      exact evN (by omega) (by simpa [attrUse] using h)
    · intro acc hb h
      rw [attrUse_drop t j hj] at hb h
      have ih := ih (acc + (t[j].f0.size + t[j].f1.size)) (by omega) (by
        rw [show acc + (t[j].f0.size + t[j].f1.size) + attrUse (t.drop (j + 1)) = acc + (t[j].f0.size + t[j].f1.size + attrUse (t.drop (j + 1))) from by omega]; exact h)
      apply evPre
      simp only [impl_UsageOf.l1, rd_T71, getD_at t _ j hj]
      refine evP (by omega) (evP (by omega) (evP (by omega) ?_))
      rw [w64 (n := (t[j].f0.size : Int) + (t[j].f1.size : Int)) (by omega) (by omega), w64 (n := (acc : Int) + ((t[j].f0.size : Int) + (t[j].f1.size : Int))) (by omega) (by omega), nxt j t.length hj (by omega)]
      simpa using ih
  exact key acc (by simpa using hb) (by simpa using h)
theorem impl_usage (L : List S51) (nx : Int) (hl : L.length ≤ 1048576) (hs : ∀ x ∈ L, x.f3.length ≤ 1048576 ∧ x.f5.length ≤ 1048576) (hu : usage L ≤ 4611686018427387904) : Ev (fun k => impl_UsageOf.f k L nx) (usage L : Int) := by
  have key : ∀ acc : Nat, acc + usage (L.drop 0) ≤ 4611686018427387904 → Ev (fun k => impl_UsageOf.l0 k (acc : Int) L (L.length : Int) (0 : Nat)) ((acc + usage (L.drop 0) : Nat) : Int) := by
    refine down (n := L.length) (P := fun i => ∀ acc : Nat, acc + usage (L.drop i) ≤ 4611686018427387904 → Ev (fun k => impl_UsageOf.l0 k (acc : Int) L (L.length : Int) (i : Nat)) ((acc + usage (L.drop i) : Nat) : Int)) ?_ (fun i hi ih => ?_)
    · intro acc _
      rw [List.drop_length]
      apply evPre
      simp only [impl_UsageOf.l0]
      exact evN (by omega) (evC (Ev.now _) (by simp [usage]))
    · intro acc hb
      rw [usage_drop L i hi] at hb ⊢
      have hx := hs _ (List.getElem_mem hi)
      unfold inoUse at hb ⊢
      have ih := ih (acc + (32 + L[i].f3.length) + attrUse L[i].f5) (by omega)
      apply evPre
      simp only [impl_UsageOf.l0, rd_T51, getD_at L _ i hi]
      refine evP (by omega) ?_
      refine evP (by omega) (evP (by omega) ?_)
      rw [w64 (n := 32 + (L[i].f3.length : Int)) (by omega) (by omega), w64 (n := (acc : Int) + (32 + (L[i].f3.length : Int))) (by omega) (by omega)]
      have := impl_use_in L (L.length : Int) L[i].f5 (i : Int) _ (by omega) (acc + (32 + L[i].f3.length)) (by omega) (by rw [nxt i L.length hi (by omega)]; exact ih)
      refine evC (by simpa using this) ?_
      omega
  have := key 0 (by simpa using hu)
  simpa [impl_UsageOf.f] using this
end Go.Proofs.YtkcfmbggdkkfeaaGreatDoor.Q
namespace Go.Proofs.YtkcfmbggdkkfeaaGreatDoor.Q
open Go.RowKit Go.Proofs.YtkcfmbggdkkfeaaGreatDoor.P Go.Proofs.YtkcfmbggdkkfeaaGreatDoorW.PrintWords Go.Proofs.YtkcfmbggdkkfeaaGreatDoorW.PrintLast Go.Proofs.YtkcfmbggdkkfeaaGreatDoorW.PrintMore

def attrOf (name : ByteArray) : List S71 → ByteArray × Int
  | [] => (⟨#[]⟩, 2)
  | x :: l => if x.f0.toList = name.toList then (x.f1, 0) else attrOf name l
def getAttrP (T : List S51) (s name : ByteArray) : ByteArray × Int := if (statP T s).2 = 0 then attrOf name (statP T s).1.f5 else (⟨#[]⟩, (statP T s).2)
theorem impl_getAttr (T : List S51) (nx : Int) (s name : ByteArray) (hT : T.length ≤ 1048576) (hs : ∀ x ∈ T, InoA x) (h : s.size ≤ 1048576) : Ev (fun k => impl_GetAttr.f k T nx s name) (getAttrP T s name) := by
  unfold impl_GetAttr.f getAttrP
  have hx := (statP_small T s hs).t
  refine Ev.bind (impl_stat T nx s hT hs h) ?_
  refine evI (fun _ => ?_) (fun _ => Ev.now _)
  have key := ev_fold (fun k i => impl_GetAttr.l0 k name (statP T s).1.f5 (statP T s).1.f5.length i) (statP T s).1.f5 (attrOf name) (by
      apply evPre
      simp only [impl_GetAttr.l0]
      exact evN (by omega) (Ev.now _)) (fun i hi ih => by
      have hr : rd_T71 (statP T s).1.f5 (i : Int) = (statP T s).1.f5[i] := getD_at _ _ i hi
      apply evPre
      simp only [impl_GetAttr.l0, attrOf]
      rw [nxt i _ hi (by omega), hr]
      exact evP (by omega) (evP (by omega) (evP (by omega) (evI (fun _ => Ev.now _) (fun _ => ih)))))
  exact key
end Go.Proofs.YtkcfmbggdkkfeaaGreatDoor.Q
namespace Go.Proofs.YtkcfmbggdkkfeaaGreatDoor.Q
open Go.RowKit Go.Proofs.YtkcfmbggdkkfeaaGreatDoor.P Go.Proofs.YtkcfmbggdkkfeaaGreatDoorW.PrintWords Go.Proofs.YtkcfmbggdkkfeaaGreatDoorW.PrintLast Go.Proofs.YtkcfmbggdkkfeaaGreatDoorW.PrintMore

def posA (nm : ByteArray) (l : List S71) : Nat := if geN nm l 0 < 0 then l.length else (geN nm l 0).toNat
theorem geN_spec (nm : ByteArray) (l : List S71) : ∀ i : Nat, geN nm l i < 0 ∨ ∃ j : Nat, j < l.length ∧ geN nm l i = ((i + j : Nat) : Int) := by
  induction l with
  | nil => intro i; exact .inl (by rw [geN]; decide)
  | cons x l ih =>
    intro i
    rw [geN]
    split
    · exact .inr ⟨0, by simp, by simp⟩
    · rcases ih (i + 1) with h | ⟨j, hj, h⟩
      · exact .inl h
      · exact .inr ⟨j + 1, by simp; omega, by rw [h]; congr 1; omega⟩
theorem posA_le (nm : ByteArray) (l : List S71) : posA nm l ≤ l.length := by
  unfold posA
  rcases geN_spec nm l 0 with h | ⟨j, hj, h⟩
  · rw [if_pos h]; exact Nat.le_refl _
  · rw [h]; split <;> omega
def hitA (nm : ByteArray) (l : List S71) : Bool := decide (posA nm l < l.length) && ((rd_T71 l (posA nm l : Int)).f0.toList == nm.toList)
def withA (x : S51) (t : List S71) : S51 := ⟨x.f0, x.f1, x.f2, x.f3, x.f4, t⟩
def putA (nm v : ByteArray) (l : List S71) : List S71 :=
  if hitA nm l = true then l.set (posA nm l) ⟨(rd_T71 l (posA nm l : Int)).f0, v⟩ else l.take (posA nm l) ++ [⟨nm, v⟩] ++ l.drop (posA nm l)
theorem putA_length (nm v : ByteArray) (l : List S71) : (putA nm v l).length ≤ l.length + 1 := by
  have := posA_le nm l
  unfold putA
  split
  · rw [List.length_set]; omega
  · simp only [List.length_append, List.length_take, List.length_drop, List.length_singleton]; omega
def setA (T : List S51) (nx : Int) (p nm v : ByteArray) : List S51 × Int × Int :=
  if (statP T p).2 = 0 then
    (if hitA nm (statP T p).1.f5 = false ∧ (statP T p).1.f5.length = 4 then (T, nx, 5) else (setP (withA (statP T p).1 (putA nm v (statP T p).1.f5)) T, nx, 0))
  else (T, nx, (statP T p).2)
theorem impl_setA (T : List S51) (nx : Int) (p nm v : ByteArray) (hT : T.length < 1048576) (hs : ∀ x ∈ T, InoT x) (hp : p.size ≤ 1048576) (hn : nm.size ≤ 1048576) (hno : nameOk nm = true) (hv : v.size ≤ 16) (hv0 : v.toList ≠ ([] : List UInt8))
    (h4 : (statP T p).1.f5.length < 1048576) (hr : readyP T nx [p] = true) : Ev (fun k => impl_SetAttr.f k T nx p nm v) (setA T nx p nm v) := by
  have hA : ∀ x ∈ T, InoA x := fun x hx => (hs x hx).a
  unfold impl_SetAttr.f
  refine Ev.bind (impl_copy_tab T nx (by omega) hA) (Ev.bind (impl_rdy T nx [p] (by omega) hs (fun q hq => by rw [List.mem_singleton.1 hq]; exact hp) (by simp)) ?_)
  refine evP hr (Ev.bind (impl_name nm (by omega)) (evP hno ?_))
  apply evPre
  simp only [impl_SetAttr.j0]
  refine evN (by simp; omega) (Ev.bind (impl_stat T nx p (by omega) hA hp) ?_)
  have hsm := statP_small T p hA
  unfold setA
  simp only [tup]
  generalize statP T p = s at *
  by_cases c1 : s.2 = 0
  · refine evP c1 ?_
    rw [if_pos c1]
    have hx : slices_IndexFunc_Attr.f s.1.f5 nm = some (geN nm s.1.f5 0) := by unfold slices_IndexFunc_Attr.f; rw [if_pos (by omega)]
    simp only [hx, Option.bind_some]
    have hle := posA_le nm s.1.f5
    have put : ∀ t : List S71, t.length ≤ 1048576 → Ev (fun k => impl_SetInode.f k T nx s.1.f0 s.1.f1 s.1.f2 s.1.f3 s.1.f4 t) (setP (withA s.1 t) T, nx) := fun t ht =>
      impl_set T nx (withA s.1 t) (by omega) hA ⟨hsm.d, hsm.e, ht⟩
    have j1 : Ev (fun k => impl_SetAttr.j1 k v (posA nm s.1.f5 : Int) T nx nm s.1.f0 s.1.f1 s.1.f2 s.1.f3 s.1.f4 s.1.f5)
        (if hitA nm s.1.f5 = false ∧ s.1.f5.length = 4 then (T, nx, 5) else (setP (withA s.1 (putA nm v s.1.f5)) T, nx, 0)) := by
      have hb : (v.toList == ([] : List UInt8)) = false := by simpa using hv0
      have hit : hitA nm s.1.f5 = true → posA nm s.1.f5 < s.1.f5.length → Ev (fun k => impl_SetAttr.j2 k v (posA nm s.1.f5 : Int) true T nx nm s.1.f0 s.1.f1 s.1.f2 s.1.f3 s.1.f4 s.1.f5)
          (if hitA nm s.1.f5 = false ∧ s.1.f5.length = 4 then (T, nx, 5) else (setP (withA s.1 (putA nm v s.1.f5)) T, nx, 0)) := by
        intro h hlt
        rw [if_neg (by rw [h]; simp)]
        have hpl := putA_length nm v s.1.f5
        unfold putA at hpl ⊢
        rw [if_pos h] at hpl ⊢
        apply evPre
        simp only [impl_SetAttr.j2]
        refine evP trivial ?_
        rw [hb]
        apply evPre
        simp only [impl_SetAttr.j3]
        refine evN (by decide) (evP trivial (evP (by omega) (evP (by omega) ?_)))
        rw [Int.toNat_natCast]
        exact Ev.bind (put _ (by omega)) (Ev.now _)
      have miss : hitA nm s.1.f5 = false → Ev (fun k => impl_SetAttr.j2 k v (posA nm s.1.f5 : Int) false T nx nm s.1.f0 s.1.f1 s.1.f2 s.1.f3 s.1.f4 s.1.f5)
          (if hitA nm s.1.f5 = false ∧ s.1.f5.length = 4 then (T, nx, 5) else (setP (withA s.1 (putA nm v s.1.f5)) T, nx, 0)) := by
        intro h
        have hpl := putA_length nm v s.1.f5
        have hput : putA nm v s.1.f5 = s.1.f5.take (posA nm s.1.f5) ++ [⟨nm, v⟩] ++ s.1.f5.drop (posA nm s.1.f5) := by unfold putA; rw [if_neg (by rw [h]; decide)]
        rw [hput] at hpl ⊢
        apply evPre
        simp only [impl_SetAttr.j2]
        refine evN (by decide) ?_
        apply evPre
        simp only [impl_SetAttr.j3]
        refine evN (by decide) (evN (by decide) (evN hv0 ?_))
        by_cases c4 : s.1.f5.length = 4
        · refine evP (by omega) ?_
          rw [if_pos ⟨h, c4⟩]
          exact Ev.now _
        · refine evN (by omega) ?_
          rw [if_neg (fun q => c4 q.2)]
          have hi : slices_Insert_Attr.f s.1.f5 (posA nm s.1.f5 : Int) [(⟨nm, v⟩ : S71)] = some (s.1.f5.take (posA nm s.1.f5) ++ [⟨nm, v⟩] ++ s.1.f5.drop (posA nm s.1.f5)) := by
            unfold slices_Insert_Attr.f
            rw [if_pos ⟨by omega, by omega, by omega⟩, Int.toNat_natCast]
          simp only [hi, Option.bind_some]
          exact Ev.bind (put _ (by omega)) (Ev.now _)
      apply evPre
      simp only [impl_SetAttr.j1]
      by_cases c2 : posA nm s.1.f5 < s.1.f5.length
      · refine evP (by omega) (evP (by omega) ?_)
        by_cases c3 : hitA nm s.1.f5 = true
        · have hq : ((rd_T71 s.1.f5 (posA nm s.1.f5 : Int)).f0.toList == nm.toList) = true := by
            unfold hitA at c3; simp only [Bool.and_eq_true] at c3; exact c3.2
          rw [hq]
          exact hit c3 c2
        · have c3 : hitA nm s.1.f5 = false := by simpa using c3
          have hq : ((rd_T71 s.1.f5 (posA nm s.1.f5 : Int)).f0.toList == nm.toList) = false := by
            unfold hitA at c3; rw [decide_eq_true c2, Bool.true_and] at c3; exact c3
          rw [hq]
          exact miss c3
      · refine evN (by omega) ?_
        exact miss (by unfold hitA; rw [decide_eq_false c2, Bool.false_and])
    by_cases c5 : geN nm s.1.f5 0 < 0
    · refine evP c5 ?_
      have hpos : posA nm s.1.f5 = s.1.f5.length := by unfold posA; rw [if_pos c5]
      rw [hpos] at j1
      exact j1
    · refine evN c5 ?_
      have hpos : (posA nm s.1.f5 : Int) = geN nm s.1.f5 0 := by unfold posA; rw [if_neg c5]; omega
      rw [hpos] at j1
      exact j1
  · refine evN c1 ?_
    rw [if_neg c1]
    exact Ev.now _
end Go.Proofs.YtkcfmbggdkkfeaaGreatDoor.Q
namespace Go.Proofs.YtkcfmbggdkkfeaaGreatDoor.Q
open Go.RowKit Go.Proofs.YtkcfmbggdkkfeaaGreatDoor.P Go.Proofs.YtkcfmbggdkkfeaaGreatDoorW.PrintWords Go.Proofs.YtkcfmbggdkkfeaaGreatDoorW.PrintLast Go.Proofs.YtkcfmbggdkkfeaaGreatDoorW.PrintMore

def vV : ByteArray := ⟨#[118]⟩
def vW : ByteArray := ⟨#[119]⟩
def nE : ByteArray := ⟨#[101]⟩
def nm (i : Nat) : ByteArray := ([(⟨#[97]⟩ : ByteArray), ⟨#[98]⟩, ⟨#[99]⟩, ⟨#[100]⟩] : List ByteArray).getD i ByteArray.empty
/-- The tables: with i attributes, from the name s on; with one of the four changed. -/
def A (d z : List Int) (s : Nat) : Nat → List S51
  | 0 => gT d [] z
  | i + 1 => (setA (A d z s i) 6 pDir (nm ((s + i) % 4)) vV).1
def W (d z : List Int) (s r : Nat) : List S51 := (setA (A d z s 4) 6 pDir (nm r) vW).1
def cA (d z : List Int) (s i : Nat) : Bool := chk (A d z s i) && decide ((setA (A d z s i) 6 pDir (nm ((s + i) % 4)) vV).2 = (6, 0)) && decide ((statP (A d z s i) pDir).1.f5.length ≤ 1000)
def cE (d z : List Int) (s : Nat) : Bool := chk (A d z s 4) && decide ((setA (A d z s 4) 6 pDir nE vV).2 = (6, 5)) && decide ((statP (A d z s 4) pDir).1.f5.length ≤ 1000)
def cW (d z : List Int) (s r : Nat) : Bool := chk (W d z s r) && decide ((setA (A d z s 4) 6 pDir (nm r) vW).2 = (6, 0)) && decide ((getAttrP (W d z s r) pDir (nm r)).2 = 0) && decide ((getAttrP (W d z s r) pDir (nm r)).1.toList = ([119] : List UInt8))
def nOk (i : Nat) : Bool := nameOk (nm i) && decide ((nm i).size ≤ 1000)
set_option maxRecDepth 100000 in
theorem nOk_all : (List.range 4).all nOk = true ∧ nameOk nE = true ∧ nE.size ≤ 1000 ∧ (splitP pDir).2 = true ∧ pDir.size ≤ 1000 := by decide +kernel
set_option maxRecDepth 100000 in
theorem v_ok : vV.size ≤ 16 ∧ vW.size ≤ 16 ∧ vV.toList ≠ ([] : List UInt8) ∧ vW.toList ≠ ([] : List UInt8) := by decide +kernel
set_option maxRecDepth 100000 in
theorem cA_all (d z : List Int) : ((List.range 4).all fun s => (List.range 4).all (cA d z s)) = true := by kernel_rfl
set_option maxRecDepth 100000 in
theorem cE_all (d z : List Int) : (List.range 4).all (cE d z) = true := by kernel_rfl
set_option maxRecDepth 100000 in
theorem cW_all (d z : List Int) : ((List.range 4).all fun s => (List.range 4).all (cW d z s)) = true := by kernel_rfl
set_option maxRecDepth 100000 in
theorem A_sh (d z : List Int) (s i : Nat) (hs : s < 4) (hi : i < 5) : (A d z s i).map sh = [(2, []), (2, []), (1, d), (1, []), (1, z)] := by
  rcases (by omega : s = 0 ∨ s = 1 ∨ s = 2 ∨ s = 3) with rfl | rfl | rfl | rfl <;> rcases (by omega : i = 0 ∨ i = 1 ∨ i = 2 ∨ i = 3 ∨ i = 4) with rfl | rfl | rfl | rfl | rfl <;> kernel_rfl
set_option maxRecDepth 100000 in
theorem W_sh (d z : List Int) (s r : Nat) (hs : s < 4) (hr : r < 4) : (W d z s r).map sh = [(2, []), (2, []), (1, d), (1, []), (1, z)] := by
  rcases (by omega : s = 0 ∨ s = 1 ∨ s = 2 ∨ s = 3) with rfl | rfl | rfl | rfl <;> rcases (by omega : r = 0 ∨ r = 1 ∨ r = 2 ∨ r = 3) with rfl | rfl | rfl | rfl <;> kernel_rfl
set_option maxRecDepth 100000 in
theorem W_use (d z : List Int) (s r : Nat) (hs : s < 4) (hr : r < 4) : usage (W d z s r) = usage (A d z s 4) := by
  rcases (by omega : s = 0 ∨ s = 1 ∨ s = 2 ∨ s = 3) with rfl | rfl | rfl | rfl <;> rcases (by omega : r = 0 ∨ r = 1 ∨ r = 2 ∨ r = 3) with rfl | rfl | rfl | rfl <;> kernel_rfl
set_option maxRecDepth 100000 in
theorem A_use (d z : List Int) (s : Nat) (hs : s < 4) : usage (A d z s 4) = usage [⟨1, 2, 0, [], [], []⟩, ⟨2, 2, 1, [], [], [⟨⟨#[97]⟩, vV⟩, ⟨⟨#[98]⟩, vV⟩, ⟨⟨#[99]⟩, vV⟩, ⟨⟨#[100]⟩, vV⟩]⟩, ⟨3, 1, 1, d, [], []⟩, ⟨4, 1, 1, [], [], []⟩, ⟨5, 1, 1, z, [], []⟩] := by
  rcases (by omega : s = 0 ∨ s = 1 ∨ s = 2 ∨ s = 3) with rfl | rfl | rfl | rfl <;> kernel_rfl
theorem nm_ok (i : Nat) (hi : i < 4) : nameOk (nm i) = true ∧ (nm i).size ≤ 1048576 := by
  have h := List.all_eq_true.1 nOk_all.1 i (List.mem_range.2 hi)
  simp only [nOk, Bool.and_eq_true, decide_eq_true_eq] at h
  exact ⟨h.1, Nat.le_trans h.2 (by decide)⟩
theorem nm_rd (i : Nat) : rdOf ByteArray.empty [(⟨#[97]⟩ : ByteArray), (⟨#[98]⟩ : ByteArray), (⟨#[99]⟩ : ByteArray), (⟨#[100]⟩ : ByteArray)] (i : Int) = nm i := rfl
theorem nm_len : ([(⟨#[97]⟩ : ByteArray), (⟨#[98]⟩ : ByteArray), (⟨#[99]⟩ : ByteArray), (⟨#[100]⟩ : ByteArray)].length : Int) = 4 := rfl
end Go.Proofs.YtkcfmbggdkkfeaaGreatDoor.Q
