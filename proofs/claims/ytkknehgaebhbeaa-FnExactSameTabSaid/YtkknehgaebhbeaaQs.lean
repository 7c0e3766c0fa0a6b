/- SameInode: what the program's and the reference's functions answer, in plain words. No condition. -/
import Derived.Test.YtkknehgaebhbeaaQh
import Derived.Test.YtkknehgaebhbeaaPx0
import Derived.Test.YtkknehgaebhbeaaPx4
import Derived.Test.YtkknehgaebhbeaaPx5
namespace Go.Proofs.Ytkknehgaebhbeaa.Q
open Go.RowKit Go.Proofs.Ytkknehgaebhbeaa.P Go.Proofs.YtkknehgaebhbeaaW.PrintWords Go.Proofs.YtkknehgaebhbeaaW.PrintLast Go.Proofs.YtkknehgaebhbeaaW.PrintMore

theorem all_from (n : Nat) (c : Nat → Bool) (i : Nat) (hi : i < n) : (List.range' i (n - i)).all c = (c i && (List.range' (i + 1) (n - (i + 1))).all c) := by
  obtain ⟨m, hm⟩ : ∃ m, n - i = m + 1 := ⟨n - i - 1, by omega⟩
  rw [hm, show n - (i + 1) = m from by omega, List.range'_succ]
  simp
/-- A loop that goes on while c holds, and answers false where it does not. -/
theorem ev_all (L : Nat → Int → Option Bool) (n : Nat) (c : Nat → Bool) (R : Bool) (h1 : Ev (fun k => L k (n : Nat)) R)
    (h2 : ∀ i, i < n → c i = true → ∀ r, Ev (fun k => L k ((i + 1 : Nat) : Int)) r → Ev (fun k => L k (i : Nat)) r)
    (h3 : ∀ i, i < n → c i = false → Ev (fun k => L k (i : Nat)) false) : Ev (fun k => L k 0) ((List.range' 0 n).all c && R) := by
  have key : ∀ m i : Nat, n - i = m → i ≤ n → Ev (fun k => L k (i : Nat)) ((List.range' i (n - i)).all c && R) := by
    intro m
    induction m with
    | zero =>
      intro i hm hi
      obtain rfl : i = n := by omega
      simpa using h1
    | succ m ih =>
      intro i hm hi
      rw [all_from n c i (by omega)]
      cases hc : c i with
      | true => simpa using h2 i (by omega) hc _ (ih (i + 1) (by omega) (by omega))
      | false => simpa using h3 i (by omega) hc
  simpa using key n 0 (by omega) (by omega)
theorem nxt' (i : Nat) (n : Nat) (hi : i < n) (hn : n ≤ 9223372036854775807) : wrap64 ((i : Int) + 1) = ((i + 1 : Nat) : Int) := by
  rw [w64 (by omega) (by omega)]; omega

def byC (a b : List Int) (i : Nat) : Bool := rd a (i : Int) == rd b (i : Int)
def enC (a b : List S83) (i : Nat) : Bool := ((rd_T83 a (i : Int)).f0.toList == (rd_T83 b (i : Int)).f0.toList) && ((rd_T83 a (i : Int)).f1 == (rd_T83 b (i : Int)).f1)
def atC (a b : List S85) (i : Nat) : Bool := ((rd_T85 a (i : Int)).f0.toList == (rd_T85 b (i : Int)).f0.toList) && ((rd_T85 a (i : Int)).f1.toList == (rd_T85 b (i : Int)).f1.toList)
def byS (a b : List Int) : Bool := decide (a.length = b.length) && (List.range' 0 a.length).all (byC a b)
def enS (a b : List S83) : Bool := decide (a.length = b.length) && (List.range' 0 a.length).all (enC a b)
def atS (a b : List S85) : Bool := decide (a.length = b.length) && (List.range' 0 a.length).all (atC a b)
def inS (x y : S45) : Bool := decide (x.f0 = y.f0) && decide (x.f1 = y.f1) && decide (x.f2 = y.f2) && byS x.f3 y.f3 && enS x.f4 y.f4 && atS x.f5 y.f5

theorem spec_sameBytes (a b : List Int) (ha : a.length ≤ 1048576) : Ev (fun k => spec_l3SameBytes.f k a b) (byS a b) := by
  unfold spec_l3SameBytes.f byS
  by_cases h : a.length = b.length
  · refine evP (by omega) (evC (ev_all (fun k i => spec_l3SameBytes.l0 k a b i) a.length (byC a b) true ?_ (fun i hi hc r e => ?_) (fun i hi hc => ?_)) (by simp [h]))
    · apply evPre
      simp only [spec_l3SameBytes.l0]
      exact evN (by omega) (Ev.now _)
    · apply evPre
      simp only [spec_l3SameBytes.l0]
      refine evP (by omega) (evP (by omega) (evP (by omega) (evP (by simpa [byC] using hc) ?_)))
      rw [nxt' i a.length hi (by omega)]
      exact e
    · apply evPre
      simp only [spec_l3SameBytes.l0]
      exact evP (by omega) (evP (by omega) (evP (by omega) (evN (by simpa [byC] using hc) (Ev.now _))))
  · exact evN (by omega) (evC (Ev.now _) (by simp [h]))
theorem impl_eqBytes (a b : List Int) (ha : a.length ≤ 1048576) : Ev (fun k => slices_Equal_byte_byte.f k a b) (byS a b) := by
  unfold slices_Equal_byte_byte.f byS
  by_cases h : a.length = b.length
  · refine evP (by omega) (evC (ev_all (fun k i => slices_Equal_byte_byte.l0 k a b (a.length : Int) i) a.length (byC a b) true ?_ (fun i hi hc r e => ?_) (fun i hi hc => ?_)) (by simp [h]))
    · apply evPre
      simp only [slices_Equal_byte_byte.l0]
      exact evN (by omega) (Ev.now _)
    · apply evPre
      simp only [slices_Equal_byte_byte.l0]
      refine evP (by omega) (evP (by omega) (evP (by omega) (evP (by omega) (evP (by simpa [byC] using hc) ?_))))
      rw [nxt' i a.length hi (by omega)]
      exact e
    · apply evPre
      simp only [slices_Equal_byte_byte.l0]
      exact evP (by omega) (evP (by omega) (evP (by omega) (evP (by omega) (evN (by simpa [byC] using hc) (Ev.now _)))))
  · exact evN (by omega) (evC (Ev.now _) (by simp [h]))
theorem ne_or (x y : Bool) : ((!x || !y) = true) ↔ (x && y) = false := by cases x <;> cases y <;> simp
theorem impl_sameEnt (a b : List S83) (ha : a.length ≤ 1048576) : Ev (fun k => slices_Equal_Ent.f k a b) (enS a b) := by
  unfold slices_Equal_Ent.f enS
  by_cases h : a.length = b.length
  · refine evP (by omega) (evC (ev_all (fun k i => slices_Equal_Ent.l0 k a b (a.length : Int) i) a.length (enC a b) true ?_ (fun i hi hc r e => ?_) (fun i hi hc => ?_)) (by simp [h]))
    · apply evPre
      simp only [slices_Equal_Ent.l0]
      exact evN (by omega) (Ev.now _)
    · apply evPre
      simp only [slices_Equal_Ent.l0]
      refine evP (by omega) (evP (by omega) (evP (by omega) (evP (by omega) (evN (fun hf => ?_) ?_))))
      · have := (ne_or _ _).1 hf
        unfold enC at hc
        rw [hc] at this
        cases this
      · rw [nxt' i a.length hi (by omega)]
        exact e
    · apply evPre
      simp only [slices_Equal_Ent.l0]
      exact evP (by omega) (evP (by omega) (evP (by omega) (evP (by omega) (evP ((ne_or _ _).2 hc) (Ev.now _)))))
  · exact evN (by omega) (evC (Ev.now _) (by simp [h]))
theorem impl_sameAttr (a b : List S85) (ha : a.length ≤ 1048576) : Ev (fun k => slices_Equal_Attr.f k a b) (atS a b) := by
  unfold slices_Equal_Attr.f atS
  by_cases h : a.length = b.length
  · refine evP (by omega) (evC (ev_all (fun k i => slices_Equal_Attr.l0 k a b (a.length : Int) i) a.length (atC a b) true ?_ (fun i hi hc r e => ?_) (fun i hi hc => ?_)) (by simp [h]))
    · apply evPre
      simp only [slices_Equal_Attr.l0]
      exact evN (by omega) (Ev.now _)
    · apply evPre
      simp only [slices_Equal_Attr.l0]
      refine evP (by omega) (evP (by omega) (evP (by omega) (evP (by omega) (evN (fun hf => ?_) ?_))))
      · have := (ne_or _ _).1 hf
        unfold atC at hc
        rw [hc] at this
        cases this
      · rw [nxt' i a.length hi (by omega)]
        exact e
    · apply evPre
      simp only [slices_Equal_Attr.l0]
      exact evP (by omega) (evP (by omega) (evP (by omega) (evP (by omega) (evP ((ne_or _ _).2 hc) (Ev.now _)))))
  · exact evN (by omega) (evC (Ev.now _) (by simp [h]))

theorem impl_same (x y : S45) (h3 : x.f3.length ≤ 1048576) (h4 : x.f4.length ≤ 1048576) (h5 : x.f5.length ≤ 1048576) :
    Ev (fun k => impl_SameInode.f k x.f0 x.f1 x.f2 x.f3 x.f4 x.f5 y.f0 y.f1 y.f2 y.f3 y.f4 y.f5) (inS x y) := by
  unfold impl_SameInode.f inS
  by_cases c0 : x.f0 = y.f0
  · refine evP c0 ?_
    by_cases c1 : x.f1 = y.f1
    · refine evP c1 ?_
      by_cases c2 : x.f2 = y.f2
      · refine evP c2 (Ev.bind (impl_eqBytes _ _ h3) ?_)
        by_cases c3 : byS x.f3 y.f3 = true
        · refine evP c3 (Ev.bind (impl_sameEnt _ _ h4) ?_)
          by_cases c4 : enS x.f4 y.f4 = true
          · exact evP c4 (Ev.bind (impl_sameAttr _ _ h5) (evC (Ev.now _) (by simp [c0, c1, c2, c3, c4])))
          · exact evN c4 (evC (Ev.now _) (by simp [c4]))
        · exact evN c3 (evC (Ev.now _) (by simp [c3]))
      · exact evN c2 (evC (Ev.now _) (by simp [c2]))
    · exact evN c1 (evC (Ev.now _) (by simp [c1]))
  · exact evN c0 (evC (Ev.now _) (by simp [c0]))
theorem spec_same_l1 (x y : S45) (h5 : x.f5.length ≤ 1048576) (hl : x.f5.length = y.f5.length) :
    Ev (fun k => spec_SameInode.l1 k 0 x.f0 x.f1 x.f2 x.f3 x.f4 x.f5 y.f0 y.f1 y.f2 y.f3 y.f4 y.f5) ((List.range' 0 x.f5.length).all (atC x.f5 y.f5)) := by
  refine evC (ev_all (fun k i => spec_SameInode.l1 k i x.f0 x.f1 x.f2 x.f3 x.f4 x.f5 y.f0 y.f1 y.f2 y.f3 y.f4 y.f5) x.f5.length (atC x.f5 y.f5) true ?_ (fun i hi hc r e => ?_) (fun i hi hc => ?_)) (by simp)
  · apply evPre
    simp only [spec_SameInode.l1]
    exact evN (by omega) (Ev.now _)
  · apply evPre
    simp only [spec_SameInode.l1]
    refine evP (by omega) (evP (by omega) (evP (by omega) (evN (fun hf => ?_) ?_)))
    · have := (ne_or _ _).1 hf
      unfold atC at hc
      rw [hc] at this
      cases this
    · rw [nxt' i x.f5.length hi (by omega)]
      exact e
  · apply evPre
    simp only [spec_SameInode.l1]
    exact evP (by omega) (evP (by omega) (evP (by omega) (evP ((ne_or _ _).2 hc) (Ev.now _))))
theorem spec_same_l0 (x y : S45) (h4 : x.f4.length ≤ 1048576) (hl : x.f4.length = y.f4.length) (h5 : x.f5.length ≤ 1048576) (hl5 : x.f5.length = y.f5.length) :
    Ev (fun k => spec_SameInode.l0 k 0 x.f0 x.f1 x.f2 x.f3 x.f4 x.f5 y.f0 y.f1 y.f2 y.f3 y.f4 y.f5) ((List.range' 0 x.f4.length).all (enC x.f4 y.f4) && (List.range' 0 x.f5.length).all (atC x.f5 y.f5)) := by
  refine ev_all (fun k i => spec_SameInode.l0 k i x.f0 x.f1 x.f2 x.f3 x.f4 x.f5 y.f0 y.f1 y.f2 y.f3 y.f4 y.f5) x.f4.length (enC x.f4 y.f4) _ ?_ (fun i hi hc r e => ?_) (fun i hi hc => ?_)
  · apply evPre
    simp only [spec_SameInode.l0]
    exact evN (by omega) (spec_same_l1 x y h5 hl5)
  · apply evPre
    simp only [spec_SameInode.l0]
    refine evP (by omega) (evP (by omega) (evP (by omega) (evN (fun hf => ?_) ?_)))
    · have := (ne_or _ _).1 hf
      unfold enC at hc
      rw [hc] at this
      cases this
    · rw [nxt' i x.f4.length hi (by omega)]
      exact e
  · apply evPre
    simp only [spec_SameInode.l0]
    exact evP (by omega) (evP (by omega) (evP (by omega) (evP ((ne_or _ _).2 hc) (Ev.now _))))
theorem spec_j0_true (x y : S45) : Ev (fun k => spec_SameInode.j0 k true x.f0 x.f1 x.f2 x.f3 x.f4 x.f5 y.f0 y.f1 y.f2 y.f3 y.f4 y.f5) false := by
  apply evPre
  simp only [spec_SameInode.j0]
  exact evP (by simp) (Ev.now _)
theorem spec_same (x y : S45) (h3 : x.f3.length ≤ 1048576) (h4 : x.f4.length ≤ 1048576) (h5 : x.f5.length ≤ 1048576) :
    Ev (fun k => spec_SameInode.f k x.f0 x.f1 x.f2 x.f3 x.f4 x.f5 y.f0 y.f1 y.f2 y.f3 y.f4 y.f5) (inS x y) := by
  unfold spec_SameInode.f inS
  have J := spec_j0_true x y
  by_cases c0 : x.f0 = y.f0
  · refine evP c0 ?_
    by_cases c1 : x.f1 = y.f1
    · refine evP c1 ?_
      by_cases c2 : x.f2 = y.f2
      · refine evP c2 (Ev.bind (spec_sameBytes _ _ h3) ?_)
        by_cases c3 : byS x.f3 y.f3 = true
        · refine evP c3 ?_
          by_cases c4 : x.f4.length = y.f4.length
          · refine evP (by omega) ?_
            by_cases c5 : x.f5.length = y.f5.length
            · apply evPre
              simp only [spec_SameInode.j0]
              refine evN (by simp [c5]) (evC (spec_same_l0 x y h4 c4 h5 c5) ?_)
              simp [c0, c1, c2, c3, enS, atS, c4, c5]
            · apply evPre
              simp only [spec_SameInode.j0]
              refine evP (by simp; omega) (evC (Ev.now _) ?_)
              simp [atS, c5]
          · exact evN (by omega) (evC J (by simp [enS, c4]))
        · exact evN c3 (evC J (by simp [c3]))
      · exact evN c2 (evC J (by simp [c2]))
    · exact evN c1 (evC J (by simp [c1]))
  · exact evN c0 (evC J (by simp [c0]))
end Go.Proofs.Ytkknehgaebhbeaa.Q
