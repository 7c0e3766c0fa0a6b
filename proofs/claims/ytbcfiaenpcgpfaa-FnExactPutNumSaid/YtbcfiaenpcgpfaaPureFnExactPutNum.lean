/- FnExactPutNum returns true for all bytes and every number: the program's PutNum and the reference's answer alike, the bytes are left as they were, and the answer is new memory. No condition. -/
import Derived.Test.YtbcfiaenpcgpfaaQf
namespace Go.Proofs.Ytbcfiaenpcgpfaa.Pure
open Go.RowKit Go.Proofs.Ytbcfiaenpcgpfaa.P Go.Proofs.Ytbcfiaenpcgpfaa.Q Go.Proofs.YtbcfiaenpcgpfaaW.PrintWords Go.Proofs.YtbcfiaenpcgpfaaW.PrintLast

theorem FnExactPutNum : laws_FnExactPutNum.Pure := by
  intro l n hl hm hw hn
  apply Ev.rounds
  unfold laws_FnExactPutNum.f
  refine evI' (fun _ => Ev.now _) (fun hbig => ?_)
  have ht := toByteS_ev l (by omega)
  have hpl := putNum_length l n
  have hs := spec_putNum l (by omega) n
  have hi := impl_putNum l (by omega) n
  refine Ev.bind ht (Ev.bind hs (Ev.bind ht (Ev.bind hi (Ev.bind (eqByteS_ev _ _ (by omega)) (evP (by simp) (Ev.bind ht (Ev.bind (eqByteS_ev _ _ (by omega)) (evP (by simp) ?_))))))))
  have hmk := markByteS_ev l 1 (by omega) (by omega)
  have hmk2 := markByteS_ev (putNum l n) 1 (by omega) (by omega)
  have hhd := heldByteS_ev (putNum l n).length 1 (by omega) (by omega)
  refine Ev.bind hmk (evN (by simp; omega) (Ev.bind (eqByteS_ev _ _ (by omega)) ?_))
  apply evPre
  simp only [laws_FnExactPutNum.j0]
  refine evN (by simp) (Ev.bind hmk2 (Ev.bind hhd (evN (by omega) (evP rfl (Ev.bind ht (Ev.bind hi (Ev.bind (eqByteS_ev _ _ (by omega)) (evP (by simp) (Ev.bind hhd (evN (by omega) (evP rfl (Ev.now _))))))))))))

end Go.Proofs.Ytbcfiaenpcgpfaa.Pure
