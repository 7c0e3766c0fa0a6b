/- FnExactSameTab returns true for all tables: the program's SameTab and the reference's answer alike, and both tables are left as they were. No condition. -/
import Derived.Test.YtkknehgaebhbeaaAskFnExactSameTab
import Derived.Test.YtkknehgaebhbeaaQst
import Derived.Test.YtkknehgaebhbeaaQg2
import Derived.Test.YtkknehgaebhbeaaPx0
import Derived.Test.YtkknehgaebhbeaaPx6
namespace Go.Proofs.Ytkknehgaebhbeaa.Pure
open Go.RowKit Go.Proofs.Ytkknehgaebhbeaa.P Go.Proofs.Ytkknehgaebhbeaa.Q Go.Proofs.Ytkknehgaebhbeaa.Kinds Go.Proofs.YtkknehgaebhbeaaW.PrintWords Go.Proofs.YtkknehgaebhbeaaW.PrintLast Go.Proofs.YtkknehgaebhbeaaW.PrintMore

theorem inoL_map (l : List S39) (h : ∀ x ∈ l, InoS x) : ∀ x ∈ l.map iInode, InoL x := fun x hx => by
  obtain ⟨h3, h4, h5⟩ := small_map l h x hx
  exact ⟨h3, h4, h5⟩
theorem FnExactSameTab : AskFnExactSameTab.Pure := by
  rintro ⟨l, nx⟩ ⟨m, ny⟩ ⟨⟨hl, hg⟩, hn⟩ ⟨⟨hl2, hg2⟩, hn2⟩
  have hM : maxLen = 9223372036854775807 := rfl
  simp only [hM] at hl hl2
  apply Ev.rounds
  unfold laws_FnExactSameTab.f
  obtain ⟨R, hR, hz, hle⟩ := szTab_ev l nx 1048576 (by omega) (by omega) hl (good_tab l hg)
  refine Ev.bind hR (evI' (fun _ => Ev.now _) (fun h => ?_))
  have hz := hz (by omega)
  obtain ⟨h1, h2⟩ := tab_small l (by omega)
  have ht := toTab_ev l nx h1 (inoB_of l h2)
  apply evPre
  simp only [laws_FnExactSameTab.j0]
  obtain ⟨R2, hR2, hz2, _⟩ := szTab_ev m ny R (by omega) (by omega) hl2 (good_tab m hg2)
  refine Ev.bind hR2 (evI' (fun _ => Ev.now _) (fun h' => ?_))
  have hz2 := hz2 (by omega)
  obtain ⟨h3, h4⟩ := tab_small m (by omega)
  have ht2 := toTab_ev m ny h3 (inoB_of m h4)
  have hs := inoL_map l h2
  apply evPre
  simp only [laws_FnExactSameTab.j1]
  refine Ev.bind ht (Ev.bind ht2 (Ev.bind (spec_sameTab _ _ nx ny (by simpa using h1) hs) (Ev.bind ht (Ev.bind ht2 (Ev.bind (impl_sameTab _ _ nx ny (by simpa using h1) hs) (evN (by simp) ?_))))))
  apply evPre
  simp only [laws_FnExactSameTab.j2]
  refine Ev.bind ht (Ev.bind (eqTab_refl _ nx (by simp; omega) (iInode_b l (inoB_of l h2))) (evP rfl ?_))
  apply evPre
  simp only [laws_FnExactSameTab.j3]
  exact Ev.bind ht2 (Ev.bind (eqTab_refl _ ny (by simp; omega) (iInode_b m (inoB_of m h4))) (evP rfl (Ev.now _)))

end Go.Proofs.Ytkknehgaebhbeaa.Pure
