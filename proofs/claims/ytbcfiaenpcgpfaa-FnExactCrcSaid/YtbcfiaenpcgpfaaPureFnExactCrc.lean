/- FnExactCrc returns true for all bytes: the program's Crc and the reference's answer alike, and the bytes are left as they were. No condition. -/
import Derived.Test.YtbcfiaenpcgpfaaQd
namespace Go.Proofs.Ytbcfiaenpcgpfaa.Pure
open Go.RowKit Go.Proofs.Ytbcfiaenpcgpfaa.P Go.Proofs.Ytbcfiaenpcgpfaa.Q Go.Proofs.YtbcfiaenpcgpfaaW.PrintWords Go.Proofs.YtbcfiaenpcgpfaaW.PrintLast

theorem FnExactCrc : laws_FnExactCrc.Pure := by
  intro l hl hm hw
  have hb : Byt l := fun x hx => wf8 (hw x hx)
  apply Ev.rounds
  unfold laws_FnExactCrc.f
  have ht := toByteS_ev l (by omega)
  refine evI' (fun _ => Ev.now _) (fun _ => ?_)
  refine Ev.bind ht (Ev.bind (spec_crc l hb (by omega)) (Ev.bind ht (Ev.bind (impl_crc l hb (by omega)) ?_)))
  refine evP rfl (Ev.bind ht (Ev.bind (eqByteS_ev l l (by omega)) ?_))
  simpa using Ev.now _

end Go.Proofs.Ytbcfiaenpcgpfaa.Pure
