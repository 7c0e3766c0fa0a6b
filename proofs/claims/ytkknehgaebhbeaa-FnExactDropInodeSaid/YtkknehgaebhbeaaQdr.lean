/- DropInode: what the program's and the reference's functions answer, in plain words. No condition. -/
import Derived.Test.YtkknehgaebhbeaaQcp
import Derived.Test.YtkknehgaebhbeaaPx0
import Derived.Test.YtkknehgaebhbeaaPx3
import Derived.Test.YtkknehgaebhbeaaPx4
namespace Go.Proofs.Ytkknehgaebhbeaa.Q
open Go.RowKit Go.Proofs.Ytkknehgaebhbeaa.P Go.Proofs.YtkknehgaebhbeaaW.PrintWords Go.Proofs.YtkknehgaebhbeaaW.PrintLast Go.Proofs.YtkknehgaebhbeaaW.PrintMore

theorem impl_copy_tab (l : List S45) (nx : Int) (hl : l.length ≤ 1048576) (hs : ∀ x ∈ l, InoA x) : Ev (fun k => impl_copyTab.f k l nx) (l, nx) := by
  have key := down (n := l.length) (P := fun i => Ev (fun k => impl_copyTab.l0 k l (l.length : Int) (i : Nat) (l.take i) nx) (l, nx)) (by
      apply evPre
      simp only [impl_copyTab.l0, List.take_length]
      exact evN (by omega) (Ev.now _)) (fun i hi h => by
      have hrd : rd_T45 l (i : Int) = l[i] := getD_at l _ i hi
      apply evPre
      simp only [impl_copyTab.l0, hrd, copy_ino l[i] (hs _ (List.getElem_mem hi)), Option.bind_some]
      rw [nxt i l.length hi (by omega)]
      refine evP (by omega) (evP (by omega) (evP (by omega) (evP (by rw [List.length_take]; omega) ?_)))
      rw [List.take_succ_eq_append_getElem hi] at h
      exact h)
  simpa [impl_copyTab.f] using key
theorem spec_drop (l : List S45) (nx ino : Int) (hl : l.length ≤ 1048576) (hs : ∀ x ∈ l, InoA x) : Ev (fun k => spec_DropInode.f k l nx ino) (dropL ino l, nx) := by
  have key := down (n := l.length) (P := fun i => Ev (fun k => spec_DropInode.l0 k ino (i : Nat) l nx (dropL ino (l.take i)) nx) (dropL ino l, nx)) (by
      apply evPre
      simp only [spec_DropInode.l0, List.take_length]
      exact evN (by omega) (Ev.now _)) (fun i hi h => by
      have hrd : rd_T45 l (i : Int) = l[i] := getD_at l _ i hi
      have hle : (dropL ino (l.take i)).length ≤ i := Nat.le_trans (List.length_filter_le _ _) (by rw [List.length_take]; omega)
      have hst : dropL ino (l.take (i + 1)) = dropL ino (l.take i) ++ (if l[i].f0 = ino then [] else [l[i]]) := by
        unfold dropL
        rw [List.take_succ_eq_append_getElem hi, List.filter_append]
        congr 1
        by_cases c : l[i].f0 = ino
        · rw [if_pos c, List.filter_cons_of_neg (by simp [c]), List.filter_nil]
        · rw [if_neg c, List.filter_cons_of_pos (by simp [c]), List.filter_nil]
      rw [hst] at h
      apply evPre
      simp only [spec_DropInode.l0, hrd, l3_copy l[i] (hs _ (List.getElem_mem hi)), Option.bind_some]
      rw [nxt i l.length hi (by omega)]
      refine evP (by omega) (evP (by omega) ?_)
      by_cases c : l[i].f0 = ino
      · rw [if_pos c, List.append_nil] at h
        exact evP c h
      · rw [if_neg c] at h
        exact evN c (evP (by omega) h))
  simpa [spec_DropInode.f, dropL] using key
theorem impl_drop (l : List S45) (nx ino : Int) (hl : l.length ≤ 1048576) (hs : ∀ x ∈ l, InoA x) : Ev (fun k => impl_DropInode.f k l nx ino) (dropL ino l, nx) := by
  unfold impl_DropInode.f
  exact Ev.bind (impl_copy_tab l nx hl hs) (evP (by dsimp only; omega) (Ev.now _))
end Go.Proofs.Ytkknehgaebhbeaa.Q
