/- FnExactInodeOk returns true for every inode: the program's InodeOk and the reference's answer alike, and the inode is left as it was. No condition. -/
import Derived.Test.YtkknehgaebhbeaaAskFnExactInodeOk
import Derived.Test.YtkknehgaebhbeaaQk
import Derived.Test.YtkknehgaebhbeaaQg2
import Derived.Test.YtkknehgaebhbeaaPx8
namespace Go.Proofs.Ytkknehgaebhbeaa.Pure
open Go.RowKit Go.Proofs.Ytkknehgaebhbeaa.P Go.Proofs.Ytkknehgaebhbeaa.Q Go.Proofs.Ytkknehgaebhbeaa.Kinds Go.Proofs.YtkknehgaebhbeaaW.PrintWords Go.Proofs.YtkknehgaebhbeaaW.PrintLast Go.Proofs.YtkknehgaebhbeaaW.PrintMore

theorem FnExactInodeOk : AskFnExactInodeOk.Pure := by
  rintro ⟨a, b, c, d, e, t⟩ ⟨ga, gb, gc, ⟨ld, gd⟩, ⟨le, ge⟩, ⟨lt, gt⟩⟩
  have hM : maxLen = 9223372036854775807 := rfl
  simp only [hM] at *
  apply Ev.rounds
  unfold laws_FnExactInodeOk.f
  obtain ⟨R, hR, hz, _⟩ := szInode_ev a b c d e t 1048576 (by omega) (by omega) ld le lt (fun x hx => (ge x hx).1) (fun x hx => gt x hx)
  refine Ev.bind hR (evI' (fun _ => Ev.now _) (fun h => ?_))
  have hz := hz (by omega)
  have hS := inoS_of ⟨a, b, c, d, e, t⟩ (by unfold inoSz; simp only; omega)
  have ht := toInode_ev a b c d e t hS.d hS.e hS.t
  have he : (e.map iEnt).length ≤ 1048576 := by simpa using hS.e
  have htl : (t.map iAttr).length ≤ 1048576 := by simpa using hS.t
  have hen : ∀ x ∈ e.map iEnt, x.f0.size ≤ 1048576 := by
    intro x hx; obtain ⟨y, hy, rfl⟩ := List.mem_map.1 hx; exact hS.en y hy
  have htn : ∀ x ∈ t.map iAttr, x.f0.size ≤ 1048576 := by
    intro x hx; obtain ⟨y, hy, rfl⟩ := List.mem_map.1 hx; exact (hS.tn y hy).1
  have hd : d.length ≤ 1048576 := hS.d
  try (apply evPre; simp only [laws_FnExactInodeOk.j0])
  refine Ev.bind ht (Ev.bind (spec_inodeOk a b c d _ _ he htl hen htn) (Ev.bind ht (Ev.bind (impl_inodeOk a b c d _ _ he htl hen htn) (evN (by simp) ?_))))
  try (apply evPre; simp only [laws_FnExactInodeOk.j1])
  exact Ev.bind ht (Ev.bind (eqInode_refl _ _ _ _ _ _ (by omega) (by omega) (by omega)) (evP rfl (Ev.now _)))

end Go.Proofs.Ytkknehgaebhbeaa.Pure
