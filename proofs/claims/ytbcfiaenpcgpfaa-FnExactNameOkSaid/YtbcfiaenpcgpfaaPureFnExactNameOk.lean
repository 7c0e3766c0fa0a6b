/- FnExactNameOk returns true for every string: the program's NameOk and the reference's answer alike. No condition. -/
import Derived.Test.YtbcfiaenpcgpfaaQb
namespace Go.Proofs.Ytbcfiaenpcgpfaa.Pure
open Go.RowKit Go.Proofs.Ytbcfiaenpcgpfaa.P Go.Proofs.Ytbcfiaenpcgpfaa.Q Go.Proofs.YtbcfiaenpcgpfaaW.PrintWords Go.Proofs.YtbcfiaenpcgpfaaW.PrintLast

theorem FnExactNameOk : laws_FnExactNameOk.Pure := by
  intro s hs
  apply Ev.rounds
  unfold laws_FnExactNameOk.f
  refine evI' (fun _ => Ev.now _) (fun _ => ?_)
  refine Ev.bind (spec_name s (by omega)) (Ev.bind (impl_name s (by omega)) ?_)
  simpa using Ev.now _

end Go.Proofs.Ytbcfiaenpcgpfaa.Pure
