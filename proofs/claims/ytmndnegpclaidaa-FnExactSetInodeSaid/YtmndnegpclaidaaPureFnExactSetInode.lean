/- FnExactSetInode returns true for every table and inode: the program's SetInode and the reference's answer alike, what is handed in is left as it was, and the answer is new memory. No condition. -/
import Derived.Test.YtmndnegpclaidaaAskFnExactSetInode
import Derived.Test.YtmndnegpclaidaaQ
import Derived.Test.YtmndnegpclaidaaPx3
import Derived.Test.YtmndnegpclaidaaPx6
namespace Go.Proofs.Ytmndnegpclaidaa.Pure
open Go.RowKit Go.Proofs.Ytmndnegpclaidaa.P Go.Proofs.Ytmndnegpclaidaa.Q Go.Proofs.Ytmndnegpclaidaa.Kinds Go.Proofs.YtmndnegpclaidaaW.PrintWords Go.Proofs.YtmndnegpclaidaaW.PrintLast Go.Proofs.YtmndnegpclaidaaW.PrintMore

theorem FnExactSetInode : AskFnExactSetInode.Pure := by
  rintro ⟨l, nx⟩ X ⟨⟨hl, hg⟩, hn⟩ hX
  have hM : maxLen = 9223372036854775807 := rfl
  simp only [hM] at hl
  obtain ⟨hd, he, ht, ge, gt⟩ := good_tab [X] (by intro x hx; rw [List.mem_singleton.1 hx]; exact hX) X (List.mem_singleton.2 rfl)
  apply Ev.rounds
  unfold laws_FnExactSetInode.f
  obtain ⟨R, hR, hz, hle⟩ := szTab_ev l nx 1048576 (by omega) (by omega) hl (good_tab l hg)
  refine Ev.bind hR (evI' (fun _ => Ev.now _) (fun h => ?_))
  have hz := hz (by omega)
  obtain ⟨R2, hR2, hz2, _⟩ := szInode_ev X.f0 X.f1 X.f2 X.f3 X.f4 X.f5 R (by omega) hle hd he ht ge gt
  refine Ev.bind hR2 (evI' (fun _ => Ev.now _) (fun h2 => ?_))
  have hz2 := hz2 (by omega)
  obtain ⟨h1, hS⟩ := tab_small l (by omega)
  have hXS : InoS X := inoS_of X (by unfold inoSz; omega)
  have hxd := hXS.d; have hxe := hXS.e; have hxt := hXS.t
  have ht' := toTab_ev l nx h1 (inoB_of l hS)
  have hu := toInode_ev X.f0 X.f1 X.f2 X.f3 X.f4 X.f5 hxd hxe hxt
  have hs := inoA_of l hS
  have hx : InoA (iInode X) := ⟨hxd, by simpa [iInode] using hxe, by simpa [iInode] using hxt⟩
  have g1 := spec_set (l.map iInode) nx (iInode X) (by simpa using h1) hs hx
  have g2 := impl_set (l.map iInode) nx (iInode X) (by simpa using h1) hs hx
  have hw := rowsW_of l
  have hw2 := rowsW_setP (iInode X) (l.map iInode)
  have hs2 : ∀ y ∈ setP (iInode X) (l.map iInode), InoA y := fun y hy => by
    rcases mem_setP _ _ _ hy with rfl | hy
    · exact hx
    · exact hs y hy
  have hl2 : (setP (iInode X) (l.map iInode)).length ≤ 1048577 := Nat.le_trans (setP_length _ _) (by simpa using h1)
  have hi : inW X.f3 (X.f4.map iEnt) (X.f5.map iAttr) ≤ 5242880 := by unfold inW; simp only [List.length_map]; omega
  have hrw : rowW (iInode X) = 3 + inW X.f3 (X.f4.map iEnt) (X.f5.map iAttr) := rfl
  generalize setP (iInode X) (l.map iInode) = Y at g1 g2 hw2 hs2 hl2
  obtain ⟨mt, m1, _, _, _⟩ := markTabS (l.map iInode) 1 (by simpa using h1) (by omega) (by omega)
  obtain ⟨d', e', t', mi, _, _, _, _⟩ := markIno X.f0 X.f1 X.f2 X.f3 (X.f4.map iEnt) (X.f5.map iAttr) (1 + rowsW (l.map iInode)) (by omega) (by omega)
  obtain ⟨mg, m2, k2, k3, hh⟩ := markTabS1 Y 1 hl2 (by omega) (by omega)
  have m3 := heldTabS1 mg nx 1 (by omega) (by omega) (by omega) hh
  rw [k3] at m3
  have q1 := eqTab_refl Y nx (by omega) (inoA_bound hs2)
  have q3 := eqInode_refl X.f0 X.f1 X.f2 X.f3 (X.f4.map iEnt) (X.f5.map iAttr) (by omega) (by simp only [List.length_map]; omega) (by simp only [List.length_map]; omega)
  refine Ev.bind ht' (Ev.bind hu (Ev.bind g1 (Ev.bind g2 (Ev.bind q1 (Ev.bind (eqTab_refl _ nx (by simp; omega) (iInode_b l (inoB_of l hS))) (Ev.bind q3 (Ev.bind m1 (Ev.bind mi (Ev.bind m2 (Ev.bind m3 (evP ?_ (Ev.now _))))))))))))
  exact ⟨rfl, rfl, rfl, by dsimp only; omega, by omega, rfl, k2⟩
end Go.Proofs.Ytmndnegpclaidaa.Pure
