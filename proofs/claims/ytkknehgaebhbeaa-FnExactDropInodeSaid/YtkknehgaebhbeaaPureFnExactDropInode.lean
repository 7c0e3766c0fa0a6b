/- FnExactDropInode returns true for every table and number: the program's DropInode and the reference's answer alike, the table is left as it was, and the answer is new memory. No condition. -/
import Derived.Test.YtkknehgaebhbeaaAskFnExactDropInode
import Derived.Test.YtkknehgaebhbeaaQdr
import Derived.Test.YtkknehgaebhbeaaQgr
import Derived.Test.YtkknehgaebhbeaaPx4
namespace Go.Proofs.Ytkknehgaebhbeaa.Pure
open Go.RowKit Go.Proofs.Ytkknehgaebhbeaa.P Go.Proofs.Ytkknehgaebhbeaa.Q Go.Proofs.Ytkknehgaebhbeaa.Kinds Go.Proofs.YtkknehgaebhbeaaW.PrintWords Go.Proofs.YtkknehgaebhbeaaW.PrintLast Go.Proofs.YtkknehgaebhbeaaW.PrintMore

theorem FnExactDropInode : AskFnExactDropInode.Pure := by
  rintro ⟨l, nx⟩ ino ⟨⟨hl, hg⟩, hn⟩ _
  have hM : maxLen = 9223372036854775807 := rfl
  simp only [hM] at hl
  apply Ev.rounds
  unfold laws_FnExactDropInode.f
  obtain ⟨R, hR, hz, _⟩ := szTab_ev l nx 1048576 (by omega) (by omega) hl (good_tab l hg)
  refine Ev.bind hR (evI' (fun _ => Ev.now _) (fun h => ?_))
  have hz := hz (by omega)
  obtain ⟨h1, h2⟩ := tab_small l (by omega)
  have ht := toTab_ev l nx h1 (inoB_of l h2)
  have hs := inoA_of l h2
  have g1 := spec_drop (l.map iInode) nx ino (by simpa using h1) hs
  have g2 := impl_drop (l.map iInode) nx ino (by simpa using h1) hs
  have hw := rowsW_of l
  have hw2 : rowsW (dropL ino (l.map iInode)) ≤ rowsW (l.map iInode) := rowsW_filter _ _
  have hs2 : ∀ x ∈ dropL ino (l.map iInode), InoA x := fun x hx => hs x (List.mem_filter.1 hx).1
  have hl2 : (dropL ino (l.map iInode)).length ≤ 1048576 := Nat.le_trans (List.length_filter_le _ _) (by simpa using h1)
  generalize dropL ino (l.map iInode) = X at g1 g2 hw2 hs2 hl2
  obtain ⟨mt, m1, _, _, _⟩ := markTabS (l.map iInode) 1 (by simpa using h1) (by omega) (by omega)
  obtain ⟨mg, m2, k2, k3, hh⟩ := markTabS X 1 hl2 (by omega) (by omega)
  have m3 := heldTabS mg nx 1 (by omega) (by omega) (by omega) hh
  rw [k3] at m3
  have q1 := eqTab_refl X nx (by omega) (inoA_bound hs2)
  refine Ev.bind ht (Ev.bind g1 (Ev.bind g2 (Ev.bind q1 (Ev.bind (eqTab_refl _ nx (by simp; omega) (iInode_b l (inoB_of l h2))) (Ev.bind m1 (Ev.bind m2 (Ev.bind m3 (evP ?_ (Ev.now _)))))))))
  exact ⟨rfl, rfl, by dsimp only; omega, by omega, rfl, k2⟩
end Go.Proofs.Ytkknehgaebhbeaa.Pure
