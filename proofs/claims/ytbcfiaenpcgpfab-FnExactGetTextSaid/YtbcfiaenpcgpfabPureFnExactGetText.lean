/- FnExactGetText returns true for all bytes and every place: the program's GetText and the reference's answer alike, and the bytes are left as they were. No condition. -/
import Derived.Test.YtbcfiaenpcgpfabQg
import Derived.Test.YtbcfiaenpcgpfabPx2
namespace Go.Proofs.Ytbcfiaenpcgpfab.Pure
open Go.RowKit Go.Proofs.Ytbcfiaenpcgpfab.P Go.Proofs.Ytbcfiaenpcgpfab.Q Go.Proofs.YtbcfiaenpcgpfabW.PrintWords Go.Proofs.YtbcfiaenpcgpfabW.PrintLast Go.Proofs.YtbcfiaenpcgpfabW.PrintMore

theorem FnExactGetText : laws_FnExactGetText.Pure := by
  intro l p hl hm hw hp
  have hb : Byt l := fun x hx => wf8 (hw x hx)
  have hp' := wf64 hp
  apply Ev.rounds
  unfold laws_FnExactGetText.f
  have ht := toByteS_ev l (by omega)
  refine evI' (fun _ => Ev.now _) (fun _ => ?_)
  refine Ev.bind ht (Ev.bind (spec_getText l hb (by omega) p (by omega)) (Ev.bind ht (Ev.bind (impl_getText l hb (by omega) p (by omega)) ?_)))
  refine evP rfl (evP rfl ?_)
  apply evPre
  simp only [laws_FnExactGetText.j0]
  refine evN (by simp) (Ev.bind ht (Ev.bind (eqByteS_ev l l (by omega)) ?_))
  simpa using Ev.now _

end Go.Proofs.Ytbcfiaenpcgpfab.Pure
