/- FnExactReached returns true for every table: the program's Reached and the reference's answer alike, the table is left as it was, and the answer is new memory. No condition. -/
import Derived.Test.YtmndnegpclaidaaAskFnExactReached
import Derived.Test.YtmndnegpclaidaaQ
import Derived.Test.YtmndnegpclaidaaPx4
namespace Go.Proofs.Ytmndnegpclaidaa.Pure
open Go.RowKit Go.Proofs.Ytmndnegpclaidaa.P Go.Proofs.Ytmndnegpclaidaa.Q Go.Proofs.Ytmndnegpclaidaa.Kinds Go.Proofs.YtmndnegpclaidaaW.PrintWords Go.Proofs.YtmndnegpclaidaaW.PrintLast Go.Proofs.YtmndnegpclaidaaW.PrintMore

theorem FnExactReached : AskFnExactReached.Pure := by
  rintro ⟨l, nx⟩ ⟨⟨hl, hg⟩, hn⟩
  have hM : maxLen = 9223372036854775807 := rfl
  simp only [hM] at hl
  apply Ev.rounds
  unfold laws_FnExactReached.f
  obtain ⟨R, hR, hz, _⟩ := szTab_ev l nx 1048576 (by omega) (by omega) hl (good_tab l hg)
  refine Ev.bind hR (evI' (fun _ => Ev.now _) (fun h => ?_))
  have hz := hz (by omega)
  obtain ⟨h1, h2⟩ := tab_small l (by omega)
  have ht := toTab_ev l nx h1 (inoB_of l h2)
  have hs := inoA_of l h2
  have g1 := spec_reached (l.map iInode) nx (by simpa using h1) hs
  have g2 := impl_reached (l.map iInode) nx (by simpa using h1) hs
  have hw := rowsW_of l
  have hX : (if isAt (l.map iInode) 1 = true then itP (isAt (l.map iInode)) (kidsI (l.map iInode)) (l.map iInode).length [1] else []).length ≤ 1048576 := by
    split
    · rename_i c
      have : ∀ (m : Nat) (xs : List Int), RowE (l.map iInode) xs → RowE (l.map iInode) (itP (isAt (l.map iInode)) (kidsI (l.map iInode)) m xs) := by
        intro m
        induction m with
        | zero => intro xs h; exact h
        | succ m ih => intro xs h; exact ih _ h.next
      have := (this (l.map iInode).length [1] ⟨List.pairwise_singleton .., fun x hx => by rw [List.mem_singleton.1 hx]; exact c⟩).len
      exact Nat.le_trans this (by simpa using h1)
    · simp
  generalize (if isAt (l.map iInode) 1 = true then itP (isAt (l.map iInode)) (kidsI (l.map iInode)) (l.map iInode).length [1] else []) = X at g1 g2 hX
  obtain ⟨mt, m1, _, _, _⟩ := markTabS (l.map iInode) 1 (by simpa using h1) (by omega) (by omega)
  have m2 := markIntS_ev X 1 (by omega) (by omega)
  have m3 := heldIntS_ev X.length 1 (by omega) (by omega)
  have q1 := eqIntS_refl X (by omega)
  refine Ev.bind ht (Ev.bind g1 (Ev.bind g2 (Ev.bind q1 (Ev.bind (eqTab_refl _ nx (by simp; omega) (iInode_b l (inoB_of l h2))) (Ev.bind m1 (Ev.bind m2 (Ev.bind m3 (evP ?_ (Ev.now _)))))))))
  exact ⟨rfl, rfl, by dsimp only; omega, by omega, rfl, marksI_length _ _⟩
end Go.Proofs.Ytmndnegpclaidaa.Pure
