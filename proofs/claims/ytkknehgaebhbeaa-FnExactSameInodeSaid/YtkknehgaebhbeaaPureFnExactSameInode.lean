/- FnExactSameInode returns true for all inodes: the program's SameInode and the reference's answer alike, and both inodes are left as they were. No condition. -/
import Derived.Test.YtkknehgaebhbeaaAskFnExactSameInode
import Derived.Test.YtkknehgaebhbeaaQs
import Derived.Test.YtkknehgaebhbeaaQi2
import Derived.Test.YtkknehgaebhbeaaPx5
namespace Go.Proofs.Ytkknehgaebhbeaa.Pure
open Go.RowKit Go.Proofs.Ytkknehgaebhbeaa.P Go.Proofs.Ytkknehgaebhbeaa.Q Go.Proofs.Ytkknehgaebhbeaa.Kinds Go.Proofs.YtkknehgaebhbeaaW.PrintWords Go.Proofs.YtkknehgaebhbeaaW.PrintLast Go.Proofs.YtkknehgaebhbeaaW.PrintMore

theorem FnExactSameInode : AskFnExactSameInode.Pure := by
  rintro x y ⟨_, _, _, ⟨hd, _⟩, ⟨he, hE⟩, ⟨ht, hT⟩⟩ ⟨_, _, _, ⟨hd2, _⟩, ⟨he2, hE2⟩, ⟨ht2, hT2⟩⟩
  have hM : maxLen = 9223372036854775807 := rfl
  simp only [hM] at hd he ht hd2 he2 ht2
  apply Ev.rounds
  unfold laws_FnExactSameInode.f
  obtain ⟨R, hR, hz, hle⟩ := szInode_ev x.f0 x.f1 x.f2 x.f3 x.f4 x.f5 1048576 (by omega) (by omega) hd he ht (fun e m => by have := (hE e m).1; simpa [hM] using this) (fun e m => by have := hT e m; simpa [hM, g127] using this)
  refine Ev.bind hR (evI' (fun _ => Ev.now _) (fun h => ?_))
  have hz := hz (by omega)
  apply evPre
  simp only [laws_FnExactSameInode.j0]
  obtain ⟨R2, hR2, hz2, _⟩ := szInode_ev y.f0 y.f1 y.f2 y.f3 y.f4 y.f5 R (by omega) (by omega) hd2 he2 ht2 (fun e m => by have := (hE2 e m).1; simpa [hM] using this) (fun e m => by have := hT2 e m; simpa [hM, g127] using this)
  refine Ev.bind hR2 (evI' (fun _ => Ev.now _) (fun h2 => ?_))
  have hz2 := hz2 (by omega)
  have hS := inoS_of x (by unfold inoSz; omega)
  have hS2 := inoS_of y (by unfold inoSz; omega)
  have tx := toInode_ev x.f0 x.f1 x.f2 x.f3 x.f4 x.f5 hS.d hS.e hS.t
  have ty := toInode_ev y.f0 y.f1 y.f2 y.f3 y.f4 y.f5 hS2.d hS2.e hS2.t
  have ss := spec_same (iInode x) (iInode y) hS.d (by simpa [iInode] using hS.e) (by simpa [iInode] using hS.t)
  have si := impl_same (iInode x) (iInode y) hS.d (by simpa [iInode] using hS.e) (by simpa [iInode] using hS.t)
  apply evPre
  simp only [laws_FnExactSameInode.j1]
  refine Ev.bind tx (Ev.bind ty (Ev.bind ss (Ev.bind tx (Ev.bind ty (Ev.bind si (evN (by simp) ?_))))))
  apply evPre
  simp only [laws_FnExactSameInode.j2]
  refine Ev.bind tx (Ev.bind (eqInode_refl _ _ _ _ _ _ (by have := hS.d; omega) (by have := hS.e; simp; omega) (by have := hS.t; simp; omega)) (evP rfl ?_))
  apply evPre
  simp only [laws_FnExactSameInode.j3]
  exact Ev.bind ty (Ev.bind (eqInode_refl _ _ _ _ _ _ (by have := hS2.d; omega) (by have := hS2.e; simp; omega) (by have := hS2.t; simp; omega)) (evP rfl (Ev.now _)))

end Go.Proofs.Ytkknehgaebhbeaa.Pure
