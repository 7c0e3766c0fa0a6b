/- InodeAt: what the program's and the reference's functions answer, in plain words. No condition. -/
import Derived.Test.YtkknehgaebhbeaaQi2
import Derived.Test.YtkknehgaebhbeaaPx0
import Derived.Test.YtkknehgaebhbeaaPx2
import Derived.Test.YtkknehgaebhbeaaPx3
namespace Go.Proofs.Ytkknehgaebhbeaa.Q
open Go.RowKit Go.Proofs.Ytkknehgaebhbeaa.P Go.Proofs.YtkknehgaebhbeaaW.PrintWords Go.Proofs.YtkknehgaebhbeaaW.PrintLast Go.Proofs.YtkknehgaebhbeaaW.PrintMore

/-- A table's inodes are small. -/
structure InoA (x : S45) : Prop where
  d : x.f3.length ≤ 1048576
  e : x.f4.length ≤ 1048576
  t : x.f5.length ≤ 1048576
theorem place_range (ino : Int) (l : List S45) : ∀ i : Nat, placeR ino l i = -1 ∨ ((i : Int) ≤ placeR ino l i ∧ placeR ino l i < i + l.length) := by
  induction l with
  | nil => intro i; exact .inl rfl
  | cons x l ih =>
    intro i
    rw [placeR]
    split
    · right; simp only [List.length_cons]; omega
    · rcases ih (i + 1) with h | h
      · exact .inl h
      · right; simp only [List.length_cons]; omega
theorem spec_at (l : List S45) (nx ino : Int) (hl : l.length ≤ 1048576) : Ev (fun k => spec_l4At.f k l nx ino) (placeR ino l 0) := by
  have key := down (n := l.length) (P := fun i => Ev (fun k => spec_l4At.l0 k ino (i : Nat) l nx) (placeR ino (l.drop i) i)) (by
      apply evPre
      simp only [spec_l4At.l0]
      refine evN (by omega) (evC (Ev.now _) ?_)
      rw [List.drop_length]; rfl) (fun i hi h => by
      have hrd : rd_T45 l (i : Int) = l[i] := getD_at l _ i hi
      apply evPre
      simp only [spec_l4At.l0, hrd]
      rw [nxt i l.length hi (by omega), List.drop_eq_getElem_cons hi, placeR]
      refine evP (by omega) (evP (by omega) ?_)
      by_cases c : l[i].f0 = ino
      · exact evP c (evC (Ev.now _) (by rw [if_pos c]))
      · exact evN c (evC h (by rw [if_neg c])))
  simpa [spec_l4At.f] using key
theorem copy_ino (x : S45) (h : InoA x) : impl_copyInode.f x.f0 x.f1 x.f2 x.f3 x.f4 x.f5 = some (x.f0, x.f1, x.f2, x.f3, x.f4, x.f5) := by
  have hd := h.d; have he := h.e; have ht := h.t
  have a : slices_Clone_byte_byte.f x.f3 = some x.f3 := by unfold slices_Clone_byte_byte.f; simp; omega
  have b : slices_Clone_Ent.f x.f4 = some x.f4 := by unfold slices_Clone_Ent.f; simp; omega
  have c : slices_Clone_Attr.f x.f5 = some x.f5 := by unfold slices_Clone_Attr.f; simp; omega
  unfold impl_copyInode.f
  rw [a, Option.bind_some, b, Option.bind_some, c, Option.bind_some]
theorem l3_copy (x : S45) (h : InoA x) : spec_l3Copy.f x.f0 x.f1 x.f2 x.f3 x.f4 x.f5 = some (x.f0, x.f1, x.f2, x.f3, x.f4, x.f5) := by
  have hd := h.d; have he := h.e; have ht := h.t
  unfold spec_l3Copy.f
  simp only [Option.bind_some, List.length_nil, List.nil_append]
  rw [if_pos (by omega), if_pos (by omega), if_pos (by omega)]
end Go.Proofs.Ytkknehgaebhbeaa.Q
