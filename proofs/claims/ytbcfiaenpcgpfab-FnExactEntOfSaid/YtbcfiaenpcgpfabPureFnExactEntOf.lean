/- FnExactEntOf returns true for every inode and every name: the program's EntOf and the reference's answer alike, and the inode is left as it was. No condition. -/
import Derived.Test.YtbcfiaenpcgpfabAskFnExactEntOf
import Derived.Test.YtbcfiaenpcgpfabQj
import Derived.Test.YtbcfiaenpcgpfabPx8
namespace Go.Proofs.Ytbcfiaenpcgpfab.Pure
open Go.RowKit Go.Proofs.Ytbcfiaenpcgpfab.P Go.Proofs.Ytbcfiaenpcgpfab.Q Go.Proofs.Ytbcfiaenpcgpfab.Kinds Go.Proofs.YtbcfiaenpcgpfabW.PrintWords Go.Proofs.YtbcfiaenpcgpfabW.PrintLast Go.Proofs.YtbcfiaenpcgpfabW.PrintMore

theorem FnExactEntOf : AskFnExactEntOf.Pure := by
  rintro ⟨a, b, c, d, e, t⟩ name ⟨ga, gb, gc, ⟨ld, gd⟩, ⟨le, ge⟩, ⟨lt, gt⟩⟩ gn
  have hM : maxLen = 9223372036854775807 := rfl
  simp only [hM] at *
  apply Ev.rounds
  unfold laws_FnExactEntOf.f
  refine evI' (fun _ => Ev.now _) (fun _ => ?_)
  obtain ⟨R, hR, hz, _⟩ := szInode_ev a b c d e t 1048576 (by omega) (by omega) ld le lt (fun x hx => (ge x hx).1) (fun x hx => gt x hx)
  refine Ev.bind hR (evI' (fun _ => Ev.now _) (fun h => ?_))
  have hz := hz (by omega)
  unfold inodeSz at hz
  have ht := toInode_ev a b c d e t (by omega) (by omega) (by omega)
  refine Ev.bind ht (Ev.bind (spec_entOf _ _ _ _ _ _ name (by simp; omega)) (Ev.bind ht (Ev.bind (impl_entOf _ _ _ _ _ _ name (by simp; omega)) ?_)))
  refine evP rfl (Ev.bind ht (Ev.bind (eqInode_refl _ _ _ _ _ _ (by simp; omega) (by simp; omega) (by simp; omega)) (evP rfl (Ev.now _))))
end Go.Proofs.Ytbcfiaenpcgpfab.Pure
