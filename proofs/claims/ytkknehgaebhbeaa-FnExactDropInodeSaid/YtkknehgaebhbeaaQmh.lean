/- A table's marks held. No condition. -/
import Derived.Test.YtkknehgaebhbeaaQmt
import Derived.Test.YtkknehgaebhbeaaPx0
import Derived.Test.YtkknehgaebhbeaaPx2
namespace Go.Proofs.Ytkknehgaebhbeaa.Q
open Go.RowKit Go.Proofs.Ytkknehgaebhbeaa.P Go.Proofs.YtkknehgaebhbeaaW.PrintWords Go.Proofs.YtkknehgaebhbeaaW.PrintLast Go.Proofs.YtkknehgaebhbeaaW.PrintMore

theorem heldTabS (l : List S45) (nx x : Int) (hl : l.length ≤ 1048576) (h0 : 1 ≤ x) (h1 : x + rowsW l ≤ 4611686018427387904) (hh : HeldT x l) : Ev (fun k => laws_heldTab.f k l nx x) (x + rowsW l) := by
  have key := down (n := l.length) (P := fun i => Ev (fun k => laws_heldInodeS.l0 k l (x + rowsW (l.take i)) (i : Nat)) (x + rowsW l)) (by
      apply evPre
      simp only [laws_heldInodeS.l0, List.take_length]
      exact evN (by omega) (Ev.now _)) (fun i hi h => by
      obtain ⟨g0, g1, g2, hd, he, ht⟩ := heldT_at l x i hi hh
      have hrd : rd_T45 l (i : Int) = l[i] := getD_at l _ i hi
      have hw := rowsW_take l i hi
      have hle := rowsW_le l (i + 1)
      have hy : rowW l[i] = 3 + (l[i].f3.length + 2 * l[i].f4.length + 2 * l[i].f5.length) := rfl
      generalize hA : x + (rowsW (l.take i) : Int) = A at g0 g1 g2 hd he ht
      have b1 := heldByteS_ev l[i].f3.length (A + 3) (by omega) (by omega)
      rw [← hd] at b1
      have b2 := heldEntS l[i].f4 (A + 3 + l[i].f3.length) (by omega) (by omega) he
      have b3 := heldAttrS l[i].f5 (A + 3 + l[i].f3.length + 2 * l[i].f4.length) (by omega) (by omega) ht
      apply evPre
      simp only [laws_heldInodeS.l0, hrd]
      rw [w64 (n := A + 1) (by omega) (by omega), w64 (n := A + 1 + 1) (by omega) (by omega), w64 (n := A + 1 + 1 + 1) (by omega) (by omega), nxt i l.length hi (by omega), show A + 1 + 1 + 1 = A + 3 from by omega]
      refine evP (by omega) (evP (by omega) (evP g0 (evP g1 (evP (by omega) (Ev.bind b1 (evN (by omega) (Ev.bind b2 (evN (by omega) (Ev.bind b3 (evN (by omega) ?_))))))))))
      rw [show A + 3 + (l[i].f3.length : Int) + 2 * l[i].f4.length + 2 * l[i].f5.length = x + rowsW (l.take (i + 1)) from by omega]
      exact h)
  unfold laws_heldTab.f laws_heldInodeS.f
  refine Ev.bind (a := x + rowsW l) ?_ (evN (by omega) (Ev.now _))
  simpa [rowsW] using key
end Go.Proofs.Ytkknehgaebhbeaa.Q
