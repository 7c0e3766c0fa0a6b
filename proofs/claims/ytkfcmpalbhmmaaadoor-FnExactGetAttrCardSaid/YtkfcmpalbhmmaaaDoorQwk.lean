/- Walk: what the program's and the reference's functions answer, in plain words. No condition. -/
import Derived.Test.YtkfcmpalbhmmaaaDoorQpp
import Derived.Test.YtkfcmpalbhmmaaaDoorQib
import Derived.Test.YtkfcmpalbhmmaaaDoorQj
import Derived.Test.YtkfcmpalbhmmaaaDoorPx0
import Derived.Test.YtkfcmpalbhmmaaaDoorPx3
import Derived.Test.YtkfcmpalbhmmaaaDoorPx4
namespace Go.Proofs.YtkfcmpalbhmmaaaDoor.Q
open Go.RowKit Go.Proofs.YtkfcmpalbhmmaaaDoor.P Go.Proofs.YtkfcmpalbhmmaaaDoorW.PrintWords Go.Proofs.YtkfcmpalbhmmaaaDoorW.PrintLast Go.Proofs.YtkfcmpalbhmmaaaDoorW.PrintMore

/-- Where names lead to, from a number on, and a code. -/
def walkR (T : List S64) : List ByteArray → Int → Int × Int
  | [], ino => (ino, 0)
  | n :: l, ino => if isAt T ino = true then (if (inoAt T ino).f1 = 2 then (if entOf n (inoAt T ino).f4 = 0 then (0, 2) else walkR T l (entOf n (inoAt T ino).f4)) else (0, 3)) else (0, 2)
def walkP (T : List S64) (s : ByteArray) : Int × Int := if (splitP s).2 = true then walkR T (splitP s).1 1 else (0, 1)
theorem ev_names {γ : Type} (L : Nat → Int → Int → Option γ) (xs : List ByteArray) (F : List ByteArray → Int → γ) (h1 : ∀ ino, Ev (fun k => L k ino (xs.length : Nat)) (F [] ino))
    (h2 : ∀ (i : Nat) (hi : i < xs.length) (ino : Int), (∀ ino', Ev (fun k => L k ino' ((i + 1 : Nat) : Int)) (F (xs.drop (i + 1)) ino')) → Ev (fun k => L k ino (i : Nat)) (F (xs[i] :: xs.drop (i + 1)) ino)) (ino : Int) : Ev (fun k => L k ino 0) (F xs ino) := by
  have key : ∀ m i : Nat, xs.length - i = m → i ≤ xs.length → ∀ ino, Ev (fun k => L k ino (i : Nat)) (F (xs.drop i) ino) := by
    intro m
    induction m with
    | zero =>
      intro i hm hi ino
      obtain rfl : i = xs.length := by omega
      rw [List.drop_length]
      exact h1 ino
    | succ m ih =>
      intro i hm hi ino
      rw [List.drop_eq_getElem_cons (by omega)]
      exact h2 i (by omega) ino (ih (i + 1) (by omega) (by omega))
  simpa using key xs.length 0 (by omega) (by omega) ino
theorem impl_walk (T : List S64) (nx : Int) (s : ByteArray) (hT : T.length ≤ 1048576) (hs : ∀ x ∈ T, InoA x) (h : s.size ≤ 1048576) : Ev (fun k => impl_Walk.f k T nx s) (walkP T s) := by
  unfold impl_Walk.f walkP
  refine Ev.bind (impl_split s h) ?_
  have hl := (splitP_size s).1
  generalize splitP s = p at *
  refine evI (fun _ => ?_) (fun _ => Ev.now _)
  refine ev_names (fun k ino i => impl_Walk.l0 k ino p.1 p.1.length i T nx) p.1 (walkR T) (fun ino => ?_) (fun i hi ino ih => ?_) 1
  · apply evPre
    simp only [impl_Walk.l0]
    exact evN (by omega) (Ev.now _)
  · have hx := inoAt_small T ino hs
    apply evPre
    simp only [impl_Walk.l0, walkR]
    rw [nxtJ i p.1.length hi (by omega), rdS p.1 i hi]
    refine evP (by omega) (evP (by omega) (evP (by omega) (Ev.bind (impl_inodeAt T nx ino hT hs) ?_)))
    refine evI (fun _ => evI (fun _ => ?_) (fun _ => Ev.now _)) (fun _ => Ev.now _)
    refine Ev.bind (impl_entOf _ _ _ _ _ _ p.1[i] (by have := hx.e; dsimp only; omega)) ?_
    exact evI (fun _ => Ev.now _) (fun _ => ih _)
theorem spec_walk (T : List S64) (nx : Int) (s : ByteArray) (hT : T.length ≤ 1048576) (hs : ∀ x ∈ T, InoA x) (h : s.size ≤ 1048576) : Ev (fun k => spec_Walk.f k T nx s) (walkP T s) := by
  unfold spec_Walk.f walkP
  refine Ev.bind (spec_split s h) ?_
  have hl := (splitP_size s).1
  generalize splitP s = p at *
  refine evI (fun _ => ?_) (fun _ => Ev.now _)
  unfold spec_l5Walk.f
  refine Ev.bind (ev_names (fun k ino i => spec_l5Walk.l0 k p.1 ino i T nx) p.1 (walkR T) (fun ino => ?_) (fun i hi ino ih => ?_) 1) (Ev.now _)
  · apply evPre
    simp only [spec_l5Walk.l0]
    exact evN (by omega) (Ev.now _)
  · have hx := inoAt_small T ino hs
    have hr := place_range ino T 0
    apply evPre
    simp only [spec_l5Walk.l0, walkR]
    rw [nxtJ i p.1.length hi (by omega), rdS p.1 i hi]
    refine evP (by omega) (Ev.bind (spec_at T nx ino hT) ?_)
    by_cases c : placeR ino T 0 < 0
    · have hn : ¬ isAt T ino = true := by simp only [isAt, decide_eq_true_eq]; omega
      rw [if_neg hn]
      exact evP c (Ev.now _)
    · have hy : isAt T ino = true := by simp only [isAt, decide_eq_true_eq]; omega
      have hi' : inoAt T ino = rd_T64 T (placeR ino T 0) := by simp only [inoAt, if_neg c]
      rw [if_pos hy, hi']
      rw [hi'] at hx
      refine evN c (evP (by omega) (evP (by omega) (evI (fun _ => evP (by omega) ?_) (fun _ => Ev.now _))))
      refine Ev.bind (spec_entOf _ _ _ _ _ _ p.1[i] (by have := hx.e; omega)) ?_
      exact evI (fun _ => Ev.now _) (fun _ => ih _)
end Go.Proofs.YtkfcmpalbhmmaaaDoor.Q
