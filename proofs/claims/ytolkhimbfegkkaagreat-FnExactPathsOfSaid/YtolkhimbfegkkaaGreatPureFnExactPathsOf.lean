/- FnExactPathsOf returns true for every table: the program's PathsOf and the reference's answer alike, the table is left as it was, and the answer is new memory. No condition. -/
import Derived.Test.YtolkhimbfegkkaaGreatAskFnExactPathsOf
import Derived.Test.YtolkhimbfegkkaaGreatQ
import Derived.Test.YtolkhimbfegkkaaGreatPx0
import Derived.Test.YtolkhimbfegkkaaGreatPx22
import Derived.Test.YtolkhimbfegkkaaGreatPx4
set_option linter.unusedVariables false
set_option linter.unusedSimpArgs false
namespace Go.Proofs.YtolkhimbfegkkaaGreat.Pure
open Go.RowKit Go.Proofs.YtolkhimbfegkkaaGreat.P Go.Proofs.YtolkhimbfegkkaaGreat.Q Go.Proofs.YtolkhimbfegkkaaGreat.Kinds Go.Proofs.YtolkhimbfegkkaaGreatW.PrintWords Go.Proofs.YtolkhimbfegkkaaGreatW.PrintLast Go.Proofs.YtolkhimbfegkkaaGreatW.PrintMore

theorem inoT_map (l : List S59) (h : ∀ x ∈ l, InoS x) : ∀ x ∈ l.map iInode, InoT x := by
  intro x hx
  obtain ⟨y, hy, rfl⟩ := List.mem_map.1 hx
  have hS := h y hy
  refine ⟨hS.d, by simpa [iInode] using hS.e, by simpa [iInode] using hS.t, fun z hz => ?_, fun z hz => ?_⟩
  · obtain ⟨u, hu, rfl⟩ := List.mem_map.1 hz; exact hS.en u hu
  · obtain ⟨u, hu, rfl⟩ := List.mem_map.1 hz; exact (hS.tn u hu).1
theorem FnExactPathsOf : AskFnExactPathsOf.Pure := by
  rintro ⟨l, nx⟩ ⟨⟨hl, hg⟩, hn⟩
  have hM : maxLen = 9223372036854775807 := rfl
  simp only [hM] at hl
  apply Ev.rounds
  unfold laws_FnExactPathsOf.f
  obtain ⟨R, hR, hz, _⟩ := szTab_ev l nx 1048576 (by omega) (by omega) hl (good_tab l hg)
  refine Ev.bind hR (evI' (fun _ => Ev.now _) (fun h => ?_))
  have hz := hz (by omega)
  obtain ⟨h1, h2⟩ := tab_small l (by omega)
  have ht := toTab_ev l nx h1 (inoB_of l h2)
  have hs := inoT_map l h2
  have hlen : (l.map iInode).length ≤ 1048576 := by simpa using h1
  have g1 := spec_paths (l.map iInode) nx hlen hs
  have g2 := impl_paths (l.map iInode) nx hlen hs
  have hx := paths_len (l.map iInode) nx
  generalize sortS (pathsP (l.map iInode) nx) = X at g1 g2 hx
  have hw := rowsW_of l
  obtain ⟨mt, m1, _, _, _⟩ := markTabS (l.map iInode) 1 hlen (by omega) (by omega)
  obtain ⟨r, m2, k3, hh⟩ := markStringS X 1 (by omega) (by omega)
  have m3 := heldStringS r 1 (by omega) (by omega) hh
  rw [k3] at m3
  refine Ev.bind ht (Ev.bind g1 (Ev.bind g2 (Ev.bind (eqStringS_same X (by omega)) (Ev.bind (eqTab_refl _ nx (by simp; omega) (iInode_b l (inoB_of l h2))) (Ev.bind m1 (Ev.bind m2 (Ev.bind m3 (evP ?_ (Ev.now _)))))))))
  exact ⟨rfl, rfl, by dsimp only; omega, by omega, rfl, k3⟩
end Go.Proofs.YtolkhimbfegkkaaGreat.Pure
