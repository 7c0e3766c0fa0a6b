/- FnExactTreeOk returns true for every table: the program's TreeOk and the reference's answer alike, and the table is left as it was. No condition. -/
import Derived.Test.YtmndnegpclaidaaAskFnExactTreeOk
import Derived.Test.YtmndnegpclaidaaQ
import Derived.Test.YtmndnegpclaidaaPx0
import Derived.Test.YtmndnegpclaidaaPx8
namespace Go.Proofs.Ytmndnegpclaidaa.Pure
open Go.RowKit Go.Proofs.Ytmndnegpclaidaa.P Go.Proofs.Ytmndnegpclaidaa.Q Go.Proofs.Ytmndnegpclaidaa.Kinds Go.Proofs.YtmndnegpclaidaaW.PrintWords Go.Proofs.YtmndnegpclaidaaW.PrintLast Go.Proofs.YtmndnegpclaidaaW.PrintMore

theorem inoT_map (l : List S29) (h : ∀ x ∈ l, InoS x) : ∀ x ∈ l.map iInode, InoT x := by
  intro x hx
  obtain ⟨y, hy, rfl⟩ := List.mem_map.1 hx
  have hS := h y hy
  refine ⟨hS.d, by simpa [iInode] using hS.e, by simpa [iInode] using hS.t, fun z hz => ?_, fun z hz => ?_⟩
  · obtain ⟨u, hu, rfl⟩ := List.mem_map.1 hz; exact hS.en u hu
  · obtain ⟨u, hu, rfl⟩ := List.mem_map.1 hz; exact (hS.tn u hu).1
theorem FnExactTreeOk : AskFnExactTreeOk.Pure := by
  rintro ⟨l, nx⟩ ⟨⟨hl, hg⟩, hn⟩
  have hM : maxLen = 9223372036854775807 := rfl
  simp only [hM] at hl
  apply Ev.rounds
  unfold laws_FnExactTreeOk.f
  obtain ⟨R, hR, hz, _⟩ := szTab_ev l nx 1048576 (by omega) (by omega) hl (good_tab l hg)
  refine Ev.bind hR (evI' (fun _ => Ev.now _) (fun h => ?_))
  have hz := hz (by omega)
  obtain ⟨h1, h2⟩ := tab_small l (by omega)
  have ht := toTab_ev l nx h1 (inoB_of l h2)
  have hs := inoT_map l h2
  apply evPre
  simp only [laws_FnExactTreeOk.j0]
  refine Ev.bind ht (Ev.bind (spec_treeOk _ nx (by simpa using h1) hs) (Ev.bind ht (Ev.bind (impl_treeOk _ nx (by simpa using h1) hs) (evN (by simp) ?_))))
  apply evPre
  simp only [laws_FnExactTreeOk.j1]
  exact Ev.bind ht (Ev.bind (eqTab_refl _ nx (by simp; omega) (iInode_b l (inoB_of l h2))) (evP rfl (Ev.now _)))

end Go.Proofs.Ytmndnegpclaidaa.Pure
