/- FnExactInodeAt returns true for every table and number: the program's InodeAt and the reference's answer alike, the table is left as it was, and the answer is new memory. No condition. -/
import Derived.Test.YtkknehgaebhbeaaAskFnExactInodeAt
import Derived.Test.YtkknehgaebhbeaaQmt
import Derived.Test.YtkknehgaebhbeaaQib
import Derived.Test.YtkknehgaebhbeaaQg2
import Derived.Test.YtkknehgaebhbeaaPx0
import Derived.Test.YtkknehgaebhbeaaPx3
namespace Go.Proofs.Ytkknehgaebhbeaa.Pure
open Go.RowKit Go.Proofs.Ytkknehgaebhbeaa.P Go.Proofs.Ytkknehgaebhbeaa.Q Go.Proofs.Ytkknehgaebhbeaa.Kinds Go.Proofs.YtkknehgaebhbeaaW.PrintWords Go.Proofs.YtkknehgaebhbeaaW.PrintLast Go.Proofs.YtkknehgaebhbeaaW.PrintMore

theorem inoA_map (l : List S39) (h : ∀ x ∈ l, InoS x) : ∀ x ∈ l.map iInode, InoA x := fun x hx => by
  obtain ⟨h3, h4, h5⟩ := small_map l h x hx
  exact ⟨h3, h4, h5⟩
theorem rowsW_map (l : List S39) : rowsW (l.map iInode) ≤ 3 * tabSz l := by
  unfold rowsW tabSz
  induction l with
  | nil => simp
  | cons x l ih =>
    simp only [List.map_cons, List.sum_cons, List.length_cons]
    have : rowW (iInode x) ≤ 3 + 3 * inoSz x := by
      unfold rowW inW inoSz inodeSz iInode
      simp only [List.length_map]
      omega
    omega
theorem FnExactInodeAt : AskFnExactInodeAt.Pure := by
  rintro ⟨l, nx⟩ ino ⟨⟨hl, hg⟩, hn⟩ _
  have hM : maxLen = 9223372036854775807 := rfl
  simp only [hM] at hl
  apply Ev.rounds
  unfold laws_FnExactInodeAt.f
  obtain ⟨R, hR, hz, _⟩ := szTab_ev l nx 1048576 (by omega) (by omega) hl (good_tab l hg)
  refine Ev.bind hR (evI' (fun _ => Ev.now _) (fun h => ?_))
  have hz := hz (by omega)
  obtain ⟨h1, h2⟩ := tab_small l (by omega)
  have ht := toTab_ev l nx h1 (inoB_of l h2)
  have hs := inoA_map l h2
  have hx := inoAt_small (l.map iInode) ino hs
  have g1 := spec_inodeAt (l.map iInode) nx ino (by simpa using h1) hs
  have g2 := impl_inodeAt (l.map iInode) nx ino (by simpa using h1) hs
  have hd := hx.d; have he := hx.e; have htt := hx.t
  generalize inoAt (l.map iInode) ino = X at g1 g2 hd he htt
  have hw := rowsW_map l
  obtain ⟨mt, m1, _, _, _⟩ := markTabS (l.map iInode) 1 (by simpa using h1) (by omega) (by omega)
  have hW : inW X.f3 X.f4 X.f5 ≤ 5242880 := by unfold inW; omega
  obtain ⟨d', e', t', m2, k3, k4, k5, hh⟩ := markIno X.f0 X.f1 X.f2 X.f3 X.f4 X.f5 1 (by omega) (by omega)
  have m3 := heldIno X.f0 X.f1 X.f2 d' e' t' 1 (by omega) (by rw [inW_of k3 k4 k5]; omega) hh
  rw [inW_of k3 k4 k5] at m3
  have q1 := eqInode_refl X.f0 X.f1 X.f2 X.f3 X.f4 X.f5 (by omega) (by omega) (by omega)
  refine Ev.bind ht (Ev.bind g1 (Ev.bind g2 (Ev.bind q1 (Ev.bind (eqTab_refl _ nx (by simp; omega) (iInode_b l (inoB_of l h2))) (Ev.bind m1 (Ev.bind m2 (Ev.bind m3 (evP ?_ (Ev.now _)))))))))
  refine ⟨rfl, rfl, rfl, by dsimp only; omega, by omega, rfl, k3, k4, k5⟩
end Go.Proofs.Ytkknehgaebhbeaa.Pure
