/- FnExactStat returns true for every table and string: the program's Stat and the reference's answer alike, the table is left as it was, and the answer is new memory. No condition. -/
import Derived.Test.YtkfcmpalbhmmaaaDoorAskFnExactStat
import Derived.Test.YtkfcmpalbhmmaaaDoorQ
import Derived.Test.YtkfcmpalbhmmaaaDoorPx5
namespace Go.Proofs.YtkfcmpalbhmmaaaDoor.Pure
open Go.RowKit Go.Proofs.YtkfcmpalbhmmaaaDoor.P Go.Proofs.YtkfcmpalbhmmaaaDoor.Q Go.Proofs.YtkfcmpalbhmmaaaDoor.Kinds Go.Proofs.YtkfcmpalbhmmaaaDoorW.PrintWords Go.Proofs.YtkfcmpalbhmmaaaDoorW.PrintLast Go.Proofs.YtkfcmpalbhmmaaaDoorW.PrintMore

theorem FnExactStat : AskFnExactStat.Pure := by
  rintro ⟨l, nx⟩ s ⟨⟨hl, hg⟩, hn⟩ _
  have hM : maxLen = 9223372036854775807 := rfl
  simp only [hM] at hl
  apply Ev.rounds
  unfold laws_FnExactStat.f
  refine evI' (fun _ => Ev.now _) (fun hsz => ?_)
  have hs : s.size ≤ 1048576 := by omega
  obtain ⟨R, hR, hz, _⟩ := szTab_ev l nx 1048576 (by omega) (by omega) hl (good_tab l hg)
  refine Ev.bind hR (evI' (fun _ => Ev.now _) (fun h => ?_))
  have hz := hz (by omega)
  obtain ⟨h1, h2⟩ := tab_small l (by omega)
  have ht := toTab_ev l nx h1 (inoB_of l h2)
  have ha := inoA_map l h2
  have hlen : (l.map iInode).length ≤ 1048576 := by simpa using h1
  have hx := statP_small (l.map iInode) s ha
  have g1 := spec_stat (l.map iInode) nx s hlen ha hs
  have g2 := impl_stat (l.map iInode) nx s hlen ha hs
  have hd := hx.d; have he := hx.e; have htt := hx.t
  generalize statP (l.map iInode) s = X at g1 g2 hd he htt
  obtain ⟨X, c⟩ := X
  have hw := rowsW_map l
  obtain ⟨mt, m1, _, _, _⟩ := markTabS (l.map iInode) 1 hlen (by omega) (by omega)
  have hW : inW X.f3 X.f4 X.f5 ≤ 5242880 := by unfold inW; dsimp only at hd he htt; omega
  obtain ⟨d', e', t', m2, k3, k4, k5, hh⟩ := markIno X.f0 X.f1 X.f2 X.f3 X.f4 X.f5 1 (by omega) (by omega)
  have m3 := heldIno X.f0 X.f1 X.f2 d' e' t' 1 (by omega) (by rw [inW_of k3 k4 k5]; omega) hh
  rw [inW_of k3 k4 k5] at m3
  have q1 := eqInode_refl X.f0 X.f1 X.f2 X.f3 X.f4 X.f5 (by dsimp only at hd; omega) (by dsimp only at he; omega) (by dsimp only at htt; omega)
  refine Ev.bind ht (Ev.bind g1 (Ev.bind g2 (Ev.bind q1 (Ev.bind (eqTab_refl _ nx (by simp; omega) (iInode_b l (inoB_of l h2))) (Ev.bind m1 (Ev.bind m2 (Ev.bind m3 (evP ?_ (Ev.now _)))))))))
  refine ⟨rfl, rfl, rfl, by dsimp only; omega, by omega, rfl, k3, k4, k5⟩
end Go.Proofs.YtkfcmpalbhmmaaaDoor.Pure
