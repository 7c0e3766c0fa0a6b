/- FnExactJoinPath returns true for all names: the program's JoinPath and the reference's answer alike, and the names are left as they were. No condition. -/
import Derived.Test.YtkknehgaebhbeaaAskFnExactJoinPath
import Derived.Test.YtkknehgaebhbeaaQjp
import Derived.Test.YtkknehgaebhbeaaPx1
namespace Go.Proofs.Ytkknehgaebhbeaa.Pure
open Go.RowKit Go.Proofs.Ytkknehgaebhbeaa.P Go.Proofs.Ytkknehgaebhbeaa.Q Go.Proofs.Ytkknehgaebhbeaa.Kinds Go.Proofs.YtkknehgaebhbeaaW.PrintWords Go.Proofs.YtkknehgaebhbeaaW.PrintLast Go.Proofs.YtkknehgaebhbeaaW.PrintMore

theorem FnExactJoinPath : AskFnExactJoinPath.Pure := by
  rintro l ⟨hl, hg⟩
  have hM : maxLen = 9223372036854775807 := rfl
  simp only [hM] at hl hg
  apply Ev.rounds
  unfold laws_FnExactJoinPath.f
  obtain ⟨R, hR, hz⟩ := szStringS_ev l 1048576 (by omega) (by omega) hl hg
  refine Ev.bind hR (evI' (fun _ => Ev.now _) (fun h => ?_))
  have hz := hz (by omega)
  have h1 : l.length ≤ 1048576 := by omega
  have h2 : strSz l ≤ 1048576 := by omega
  refine Ev.bind (toStringS_ev l h1) (Ev.bind (spec_join l h1 h2) (Ev.bind (impl_join l h1 h2) (Ev.bind (eqStringS_refl l h1) (evP ⟨?_, rfl⟩ (Ev.now _)))))
  by_cases c : l.length = 0
  · obtain rfl := List.eq_nil_of_length_eq_zero c
    rfl
  · rw [if_neg c]
    split
    · rw [joinB_path l (fun h => c (by rw [h]; rfl))]
    · rfl
end Go.Proofs.Ytkknehgaebhbeaa.Pure
