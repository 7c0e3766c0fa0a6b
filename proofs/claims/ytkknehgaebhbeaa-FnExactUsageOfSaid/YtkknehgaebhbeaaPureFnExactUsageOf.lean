/- FnExactUsageOf returns true for every table: the program's UsageOf and the reference's answer alike, and the table is left as it was. No condition. -/
import Derived.Test.YtkknehgaebhbeaaAskFnExactUsageOf
import Derived.Test.YtkknehgaebhbeaaQmu
import Derived.Test.YtkknehgaebhbeaaQg2
import Derived.Test.YtkknehgaebhbeaaPx0
import Derived.Test.YtkknehgaebhbeaaPx6
namespace Go.Proofs.Ytkknehgaebhbeaa.Pure
open Go.RowKit Go.Proofs.Ytkknehgaebhbeaa.P Go.Proofs.Ytkknehgaebhbeaa.Q Go.Proofs.Ytkknehgaebhbeaa.Kinds Go.Proofs.YtkknehgaebhbeaaW.PrintWords Go.Proofs.YtkknehgaebhbeaaW.PrintLast Go.Proofs.YtkknehgaebhbeaaW.PrintMore

theorem FnExactUsageOf : AskFnExactUsageOf.Pure := by
  rintro ⟨l, nx⟩ ⟨⟨hl, hg⟩, hn⟩
  have hM : maxLen = 9223372036854775807 := rfl
  simp only [hM] at hl
  apply Ev.rounds
  unfold laws_FnExactUsageOf.f
  obtain ⟨R, hR, hz, _⟩ := szTab_ev l nx 1048576 (by omega) (by omega) hl (good_tab l hg)
  refine Ev.bind hR (evI' (fun _ => Ev.now _) (fun h => ?_))
  have hz := hz (by omega)
  obtain ⟨h1, h2⟩ := tab_small l (by omega)
  have ht := toTab_ev l nx h1 (inoB_of l h2)
  have hs := small_map l h2
  have hu : usage (l.map iInode) ≤ 4611686018427387904 := by
    have key : ∀ m : List S39, usage (m.map iInode) ≤ 32 * m.length + (m.map inoSz).sum := by
      intro m
      induction m with
      | nil => simp [usage]
      | cons x m ih =>
        have e : attrUse (x.f5.map iAttr) = attrSz x.f5 := by
          unfold attrUse attrSz
          rw [List.map_map]; rfl
        simp only [List.map_cons, usage, List.sum_cons, List.length_cons] at ih ⊢
        have : inoUse (iInode x) = 32 + x.f3.length + attrSz x.f5 := by simp [inoUse, iInode, e]
        unfold inoSz inodeSz at *
        omega
    have := key l
    unfold tabSz at hz
    omega
  try (apply evPre; simp only [laws_FnExactUsageOf.j0])
  refine Ev.bind ht (Ev.bind (spec_usage _ nx (by simpa using h1) (fun x hx => ⟨(hs x hx).1, (hs x hx).2.2⟩) hu) (Ev.bind ht (Ev.bind (impl_usage _ nx (by simpa using h1) (fun x hx => ⟨(hs x hx).1, (hs x hx).2.2⟩) hu) (evP rfl ?_))))
  try (apply evPre; simp only [laws_FnExactUsageOf.j1])
  exact Ev.bind ht (Ev.bind (eqTab_refl _ nx (by simp; omega) (iInode_b l (inoB_of l h2))) (evP rfl (Ev.now _)))

end Go.Proofs.Ytkknehgaebhbeaa.Pure
