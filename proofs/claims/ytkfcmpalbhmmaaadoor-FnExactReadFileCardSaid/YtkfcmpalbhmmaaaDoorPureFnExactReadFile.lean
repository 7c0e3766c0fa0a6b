/- FnExactReadFile returns true for every table, string and numbers: the program's ReadFile and the reference's answer alike, the table is left as it was, and the answer is new memory. No condition. -/
import Derived.Test.YtkfcmpalbhmmaaaDoorAskFnExactReadFile
import Derived.Test.YtkfcmpalbhmmaaaDoorQ
import Derived.Test.YtkfcmpalbhmmaaaDoorPx5
namespace Go.Proofs.YtkfcmpalbhmmaaaDoor.Pure
open Go.RowKit Go.Proofs.YtkfcmpalbhmmaaaDoor.P Go.Proofs.YtkfcmpalbhmmaaaDoor.Q Go.Proofs.YtkfcmpalbhmmaaaDoor.Kinds Go.Proofs.YtkfcmpalbhmmaaaDoorW.PrintWords Go.Proofs.YtkfcmpalbhmmaaaDoorW.PrintLast Go.Proofs.YtkfcmpalbhmmaaaDoorW.PrintMore

theorem FnExactReadFile : AskFnExactReadFile.Pure := by
  rintro ⟨l, nx⟩ s o n ⟨⟨hl, hg⟩, hn⟩ _ _ hnw
  have hM : maxLen = 9223372036854775807 := rfl
  simp only [hM] at hl
  have hn63 := (wf64 hnw).2
  apply Ev.rounds
  unfold laws_FnExactReadFile.f
  refine evI' (fun _ => Ev.now _) (fun hsz => ?_)
  have hs : s.size ≤ 1048576 := by omega
  obtain ⟨R, hR, hz, _⟩ := szTab_ev l nx 1048576 (by omega) (by omega) hl (good_tab l hg)
  refine Ev.bind hR (evI' (fun _ => Ev.now _) (fun h => ?_))
  have hz := hz (by omega)
  obtain ⟨h1, h2⟩ := tab_small l (by omega)
  have ht := toTab_ev l nx h1 (inoB_of l h2)
  have ha := inoA_map l h2
  have hlen : (l.map iInode).length ≤ 1048576 := by simpa using h1
  have hx := readP_len (l.map iInode) s o n ha
  have g1 := spec_read (l.map iInode) nx s o n hlen ha hs hn63
  have g2 := impl_read (l.map iInode) nx s o n hlen ha hs
  generalize readP (l.map iInode) s o n = X at g1 g2 hx
  obtain ⟨X, c⟩ := X
  dsimp only at hx
  have hw := rowsW_map l
  obtain ⟨mt, m1, _, _, _⟩ := markTabS (l.map iInode) 1 hlen (by omega) (by omega)
  have m2 := markByteS_ev X 1 (by omega) (by omega)
  have m3 := heldByteS_ev X.length 1 (by omega) (by omega)
  have q1 := evC (eqByteS_ev X X (by omega)) (decide_eq_true rfl)
  refine Ev.bind ht (Ev.bind g1 (Ev.bind g2 (Ev.bind q1 (Ev.bind (eqTab_refl _ nx (by simp; omega) (iInode_b l (inoB_of l h2))) (Ev.bind m1 (Ev.bind m2 (Ev.bind m3 (evP ?_ (Ev.now _)))))))))
  refine ⟨rfl, rfl, rfl, by dsimp only; omega, by omega, rfl, marks_length _ _⟩
end Go.Proofs.YtkfcmpalbhmmaaaDoor.Pure
