/- FnExactList returns true for every table and string: the program's List and the reference's answer alike, the table is left as it was, and the answer is new memory. No condition. -/
import Derived.Test.YtkfcmpalbhmmaaaDoorAskFnExactList
import Derived.Test.YtkfcmpalbhmmaaaDoorQ
import Derived.Test.YtkfcmpalbhmmaaaDoorPx5
namespace Go.Proofs.YtkfcmpalbhmmaaaDoor.Pure
open Go.RowKit Go.Proofs.YtkfcmpalbhmmaaaDoor.P Go.Proofs.YtkfcmpalbhmmaaaDoor.Q Go.Proofs.YtkfcmpalbhmmaaaDoor.Kinds Go.Proofs.YtkfcmpalbhmmaaaDoorW.PrintWords Go.Proofs.YtkfcmpalbhmmaaaDoorW.PrintLast Go.Proofs.YtkfcmpalbhmmaaaDoorW.PrintMore

theorem FnExactList : AskFnExactList.Pure := by
  rintro ⟨l, nx⟩ s ⟨⟨hl, hg⟩, hn⟩ _
  have hM : maxLen = 9223372036854775807 := rfl
  simp only [hM] at hl
  apply Ev.rounds
  unfold laws_FnExactList.f
  refine evI' (fun _ => Ev.now _) (fun hsz => ?_)
  have hs : s.size ≤ 1048576 := by omega
  obtain ⟨R, hR, hz, _⟩ := szTab_ev l nx 1048576 (by omega) (by omega) hl (good_tab l hg)
  refine Ev.bind hR (evI' (fun _ => Ev.now _) (fun h => ?_))
  have hz := hz (by omega)
  obtain ⟨h1, h2⟩ := tab_small l (by omega)
  have ht := toTab_ev l nx h1 (inoB_of l h2)
  have ha := inoA_map l h2
  have hlen : (l.map iInode).length ≤ 1048576 := by simpa using h1
  have hx := listP_len (l.map iInode) s ha
  have g1 := spec_list (l.map iInode) nx s hlen ha hs
  have g2 := impl_list (l.map iInode) nx s hlen ha hs
  generalize listP (l.map iInode) s = X at g1 g2 hx
  obtain ⟨X, c⟩ := X
  dsimp only at hx
  have hw := rowsW_map l
  obtain ⟨mt, m1, _, _, _⟩ := markTabS (l.map iInode) 1 hlen (by omega) (by omega)
  obtain ⟨r, m2, k3, hh⟩ := markStringS X 1 (by omega) (by omega)
  have m3 := heldStringS r 1 (by omega) (by omega) hh
  rw [k3] at m3
  refine Ev.bind ht (Ev.bind g1 (Ev.bind g2 (Ev.bind (eqStringS_same X (by omega)) (Ev.bind (eqTab_refl _ nx (by simp; omega) (iInode_b l (inoB_of l h2))) (Ev.bind m1 (Ev.bind m2 (Ev.bind m3 (evP ?_ (Ev.now _)))))))))
  refine ⟨rfl, rfl, rfl, by dsimp only; omega, by omega, rfl, k3⟩
end Go.Proofs.YtkfcmpalbhmmaaaDoor.Pure
