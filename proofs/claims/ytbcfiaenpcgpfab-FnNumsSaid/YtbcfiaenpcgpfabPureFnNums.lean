/- FnNums returns true for all bytes: a drawn number, or the nearest that is kept, comes back of its bytes, and does not without its last byte; a drawn text does, too. No condition. -/
import Derived.Test.YtbcfiaenpcgpfabQg
import Derived.Test.YtbcfiaenpcgpfabPx3
import Derived.Test.YtbcfiaenpcgpfabPx4
namespace Go.Proofs.Ytbcfiaenpcgpfab.Pure
open Go.RowKit Go.Proofs.Ytbcfiaenpcgpfab.P Go.Proofs.Ytbcfiaenpcgpfab.Q Go.Proofs.YtbcfiaenpcgpfabW.PrintWords Go.Proofs.YtbcfiaenpcgpfabW.PrintLast Go.Proofs.YtbcfiaenpcgpfabW.PrintMore

theorem FnNums : laws_FnNums.Pure := by
  intro l hl hm hw
  have hb : Byt l := fun x hx => wf8 (hw x hx)
  apply Ev.rounds
  unfold laws_FnNums.f laws_big.f
  simp only [Option.bind_some]
  refine evI' (fun _ => Ev.now _) (fun hbig => ?_)
  have hsm : l.length ≤ 1048576 := by simp at hbig; omega
  obtain ⟨h1, e1, c1⟩ := l1New_ev l hb (by omega)
  obtain ⟨ys, i2, h2, e2, hy, hyl, c2⟩ := l1Some_ev c1 h1
  obtain ⟨zs, i3, h3, e3, hz, hzl, c3⟩ := l1Some_ev c2 h2
  obtain ⟨x, i4, h4, e4, hx0, hx1, _, c4⟩ := l1Below_ev c2 h2 100000
  obtain ⟨n, i5, h5, e5, hn, c5⟩ := l1Int_ev c4 h4 [0, 1, 127, 128, 16383, 16384, 1000000, 1000001, (-1), 9223372036854775807, x] (by simp)
  have eD : Ev (fun k => spec_DrawPutNum.f k l) (ys, n) := by
    unfold spec_DrawPutNum.f
    refine Ev.bind e1 (Ev.bind e2 ?_)
    simp only [e4, e5, Option.bind_some]
    exact Ev.now _
  have eT : Ev (fun k => spec_DrawPutText.f k l) (ys, strOfNums zs) := by
    unfold spec_DrawPutText.f
    exact Ev.bind e1 (Ev.bind e2 (Ev.bind e3 (Ev.now _)))
  have hpl := putNum_length ys n
  have hpb : Byt (putNum ys n) := byt_putNum hy n
  have hp1 : ys.length < (putNum ys n).length := by have := putR_pos 3 (clamp n); simp [putNum]; omega
  have g1 := impl_getNum (putNum ys n) hpb (by omega) (ys.length : Int) (by omega)
  have g2 := impl_getNum ((putNum ys n).take ((putNum ys n).length - 1)) (fun x hx => hpb x (List.mem_of_mem_take hx)) (by rw [List.length_take]; omega) (ys.length : Int) (by omega)
  rw [show getNum (putNum ys n) (ys.length : Int) = _ from by simpa using getNum_put ys n []] at g1
  rw [getNum_cut] at g2
  have hss : (strOfNums zs).size = zs.length := strOfNums_size zs
  have hpt := putText_length ys (strOfNums zs)
  have g3 := impl_getText (putText ys (strOfNums zs)) (byt_putText hy _) (by omega) (ys.length : Int) (by omega)
  rw [getText_put ys (strOfNums zs) (by omega)] at g3
  refine Ev.bind eD (Ev.bind (impl_putNum ys (by omega) n) (Ev.bind g1 ?_))
  have key : ∀ c : Int, c = clamp n → Ev (fun k => laws_FnNums.j1 k l ys c (putNum ys n) (clamp n) ((putNum ys n).length : Int) true) true := by
    intro c hc
    subst hc
    apply evPre
    simp only [laws_FnNums.j1]
    rw [w64 (by omega) (by omega), show (((putNum ys n).length : Int) - 1).toNat = (putNum ys n).length - 1 from by omega]
    refine evP (by omega) (evP (by omega) (Ev.bind g2 (Ev.bind eT (Ev.bind (impl_putText ys (by omega) (strOfNums zs) (by omega)) (Ev.bind g3 ?_)))))
    simp only [if_true, Bool.false_eq_true, if_false]
    refine evC (Ev.now _) ?_
    simp
  have hc := clamp_range n
  refine evI' (fun h => ?_) (fun h => ?_)
  · apply evPre
    simp only [laws_FnNums.j0]
    exact evN (by omega) (key _ (by unfold clamp; omega))
  · apply evPre
    simp only [laws_FnNums.j0]
    refine evI' (fun h => key _ (by unfold clamp; omega)) (fun h' => key _ ?_)
    unfold clamp; simp only at h h'; omega

end Go.Proofs.Ytbcfiaenpcgpfab.Pure
