/- FnExactGetNum returns true for all bytes and every place: the program's GetNum and the reference's answer alike, and the bytes are left as they were. No condition. -/
import Derived.Test.YtbcfiaenpcgpfaaQc
namespace Go.Proofs.Ytbcfiaenpcgpfaa.Pure
open Go.RowKit Go.Proofs.Ytbcfiaenpcgpfaa.P Go.Proofs.Ytbcfiaenpcgpfaa.Q Go.Proofs.YtbcfiaenpcgpfaaW.PrintWords Go.Proofs.YtbcfiaenpcgpfaaW.PrintLast

theorem FnExactGetNum : laws_FnExactGetNum.Pure := by
  intro l p hl hm hw hp
  have hb : Byt l := fun x hx => wf8 (hw x hx)
  have hp' := wf64 hp
  apply Ev.rounds
  unfold laws_FnExactGetNum.f
  have ht := toByteS_ev l (by omega)
  refine evI' (fun _ => Ev.now _) (fun _ => ?_)
  refine Ev.bind ht (Ev.bind (spec_getNum l hb (by omega) p (by omega)) (Ev.bind ht (Ev.bind (impl_getNum l hb (by omega) p (by omega)) ?_)))
  refine evP rfl (evP rfl ?_)
  apply evPre
  simp only [laws_FnExactGetNum.j0]
  refine evN (by simp) (Ev.bind ht (Ev.bind (eqByteS_ev l l (by omega)) ?_))
  simpa using Ev.now _

end Go.Proofs.Ytbcfiaenpcgpfaa.Pure
