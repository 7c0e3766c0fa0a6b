/- FnExactTabOk returns true for every table: the program's TabOk and the reference's answer alike, and the table is left as it was. No condition. -/
import Derived.Test.YtkknehgaebhbeaaAskFnExactTabOk
import Derived.Test.YtkknehgaebhbeaaQtk
import Derived.Test.YtkknehgaebhbeaaQg2
import Derived.Test.YtkknehgaebhbeaaPx0
import Derived.Test.YtkknehgaebhbeaaPx7
namespace Go.Proofs.Ytkknehgaebhbeaa.Pure
open Go.RowKit Go.Proofs.Ytkknehgaebhbeaa.P Go.Proofs.Ytkknehgaebhbeaa.Q Go.Proofs.Ytkknehgaebhbeaa.Kinds Go.Proofs.YtkknehgaebhbeaaW.PrintWords Go.Proofs.YtkknehgaebhbeaaW.PrintLast Go.Proofs.YtkknehgaebhbeaaW.PrintMore

theorem inoT_map (l : List S39) (h : ∀ x ∈ l, InoS x) : ∀ x ∈ l.map iInode, InoT x := by
  intro x hx
  obtain ⟨y, hy, rfl⟩ := List.mem_map.1 hx
  have hS := h y hy
  refine ⟨hS.d, by simpa [iInode] using hS.e, by simpa [iInode] using hS.t, fun z hz => ?_, fun z hz => ?_⟩
  · obtain ⟨u, hu, rfl⟩ := List.mem_map.1 hz; exact hS.en u hu
  · obtain ⟨u, hu, rfl⟩ := List.mem_map.1 hz; exact (hS.tn u hu).1
theorem FnExactTabOk : AskFnExactTabOk.Pure := by
  rintro ⟨l, nx⟩ ⟨⟨hl, hg⟩, hn⟩
  have hM : maxLen = 9223372036854775807 := rfl
  simp only [hM] at hl
  apply Ev.rounds
  unfold laws_FnExactTabOk.f
  obtain ⟨R, hR, hz, _⟩ := szTab_ev l nx 1048576 (by omega) (by omega) hl (good_tab l hg)
  refine Ev.bind hR (evI' (fun _ => Ev.now _) (fun h => ?_))
  have hz := hz (by omega)
  obtain ⟨h1, h2⟩ := tab_small l (by omega)
  have ht := toTab_ev l nx h1 (inoB_of l h2)
  have hs := inoT_map l h2
  apply evPre
  simp only [laws_FnExactTabOk.j0]
  refine Ev.bind ht (Ev.bind (spec_tabOk _ nx (by simpa using h1) hs) (Ev.bind ht (Ev.bind (impl_tabOk _ nx (by simpa using h1) hs) (evN (by simp) ?_))))
  apply evPre
  simp only [laws_FnExactTabOk.j1]
  exact Ev.bind ht (Ev.bind (eqTab_refl _ nx (by simp; omega) (iInode_b l (inoB_of l h2))) (evP rfl (Ev.now _)))

end Go.Proofs.Ytkknehgaebhbeaa.Pure
