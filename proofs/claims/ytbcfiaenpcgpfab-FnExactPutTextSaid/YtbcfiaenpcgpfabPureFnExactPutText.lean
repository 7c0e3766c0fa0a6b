/- FnExactPutText returns true for all bytes and every text: the program's PutText and the reference's answer alike, the bytes are left as they were, and the answer is new memory. No condition. -/
import Derived.Test.YtbcfiaenpcgpfabQg
import Derived.Test.YtbcfiaenpcgpfabPx3
namespace Go.Proofs.Ytbcfiaenpcgpfab.Pure
open Go.RowKit Go.Proofs.Ytbcfiaenpcgpfab.P Go.Proofs.Ytbcfiaenpcgpfab.Q Go.Proofs.YtbcfiaenpcgpfabW.PrintWords Go.Proofs.YtbcfiaenpcgpfabW.PrintLast Go.Proofs.YtbcfiaenpcgpfabW.PrintMore

theorem FnExactPutText : laws_FnExactPutText.Pure := by
  intro l n hl hm hw hn
  apply Ev.rounds
  unfold laws_FnExactPutText.f
  refine evI' (fun _ => Ev.now _) (fun hbig => ?_)
  refine evI' (fun _ => Ev.now _) (fun hbig2 => ?_)
  have ht := toByteS_ev l (by omega)
  have hpl := putText_length l n
  have hs := spec_putText l (by omega) n (by omega)
  have hi := impl_putText l (by omega) n (by omega)
  refine Ev.bind ht (Ev.bind hs (Ev.bind ht (Ev.bind hi (Ev.bind (eqByteS_ev _ _ (by omega)) (evP (by simp) (Ev.bind ht (Ev.bind (eqByteS_ev _ _ (by omega)) (evP (by simp) ?_))))))))
  have hmk := markByteS_ev l 1 (by omega) (by omega)
  have hmk2 := markByteS_ev (putText l n) 1 (by omega) (by omega)
  have hhd := heldByteS_ev (putText l n).length 1 (by omega) (by omega)
  refine Ev.bind hmk (evN (by simp; omega) (Ev.bind (eqByteS_ev _ _ (by omega)) ?_))
  apply evPre
  simp only [laws_FnExactPutText.j0]
  refine evN (by simp) (Ev.bind hmk2 (Ev.bind hhd (evN (by omega) (evP rfl (Ev.bind ht (Ev.bind hi (Ev.bind (eqByteS_ev _ _ (by omega)) (evP (by simp) (Ev.bind hhd (evN (by omega) (evP rfl (Ev.now _))))))))))))

end Go.Proofs.Ytbcfiaenpcgpfab.Pure
