/- FnExactLinksOf returns true for every table and every number: the program's LinksOf and the reference's answer alike, and the table is left as it was. No condition. -/
import Derived.Test.YtkknehgaebhbeaaAskFnExactLinksOf
import Derived.Test.YtkknehgaebhbeaaQml
import Derived.Test.YtkknehgaebhbeaaQg2
import Derived.Test.YtkknehgaebhbeaaPx0
import Derived.Test.YtkknehgaebhbeaaPx8
namespace Go.Proofs.Ytkknehgaebhbeaa.Pure
open Go.RowKit Go.Proofs.Ytkknehgaebhbeaa.P Go.Proofs.Ytkknehgaebhbeaa.Q Go.Proofs.Ytkknehgaebhbeaa.Kinds Go.Proofs.YtkknehgaebhbeaaW.PrintWords Go.Proofs.YtkknehgaebhbeaaW.PrintLast Go.Proofs.YtkknehgaebhbeaaW.PrintMore

theorem FnExactLinksOf : AskFnExactLinksOf.Pure := by
  rintro ⟨l, nx⟩ n ⟨⟨hl, hg⟩, hn⟩ gn
  have hM : maxLen = 9223372036854775807 := rfl
  simp only [hM] at hl
  apply Ev.rounds
  unfold laws_FnExactLinksOf.f
  obtain ⟨R, hR, hz, _⟩ := szTab_ev l nx 1048576 (by omega) (by omega) hl (good_tab l hg)
  refine Ev.bind hR (evI' (fun _ => Ev.now _) (fun h => ?_))
  have hz := hz (by omega)
  obtain ⟨h1, h2⟩ := tab_small l (by omega)
  have ht := toTab_ev l nx h1 (inoB_of l h2)
  have hs := small_map l h2
  have hu : linksOf n (l.map iInode) ≤ 4611686018427387904 := by
    have key : ∀ m : List S39, linksOf n (m.map iInode) ≤ (m.map inoSz).sum := by
      intro m
      induction m with
      | nil => simp [linksOf]
      | cons x m ih =>
        have e : inoLinks n (iInode x) ≤ x.f4.length := by
          unfold inoLinks
          split
          · have := List.length_filter_le (fun y : S83 => decide (y.f1 = n)) (iInode x).f4
            simpa [entLinks, iInode] using this
          · omega
        simp only [List.map_cons, linksOf, List.sum_cons] at ih ⊢
        unfold inoSz inodeSz at *
        omega
    have := key l
    unfold tabSz at hz
    omega
  try (apply evPre; simp only [laws_FnExactLinksOf.j0])
  refine Ev.bind ht (Ev.bind (spec_links _ nx n (by simpa using h1) (fun x hx => (hs x hx).2.1) hu) (Ev.bind ht (Ev.bind (impl_links _ nx n (by simpa using h1) (fun x hx => (hs x hx).2.1) hu) (evP rfl ?_))))
  try (apply evPre; simp only [laws_FnExactLinksOf.j1])
  exact Ev.bind ht (Ev.bind (eqTab_refl _ nx (by simp; omega) (iInode_b l (inoB_of l h2))) (evP rfl (Ev.now _)))

end Go.Proofs.Ytkknehgaebhbeaa.Pure
