/- FnExactSplitPath returns true for every string: the program's SplitPath and the reference's answer alike, and the answer is new memory. No condition. -/
import Derived.Test.YtkfcmpalbhmmaaaDoorAskFnExactSplitPath
import Derived.Test.YtkfcmpalbhmmaaaDoorQmb
import Derived.Test.YtkfcmpalbhmmaaaDoorQpp
import Derived.Test.YtkfcmpalbhmmaaaDoorPx1
namespace Go.Proofs.YtkfcmpalbhmmaaaDoor.Pure
open Go.RowKit Go.Proofs.YtkfcmpalbhmmaaaDoor.P Go.Proofs.YtkfcmpalbhmmaaaDoor.Q Go.Proofs.YtkfcmpalbhmmaaaDoorW.PrintWords Go.Proofs.YtkfcmpalbhmmaaaDoorW.PrintLast Go.Proofs.YtkfcmpalbhmmaaaDoorW.PrintMore

theorem FnExactSplitPath : AskFnExactSplitPath.Pure := by
  intro s _
  apply Ev.rounds
  unfold laws_FnExactSplitPath.f
  refine evI' (fun _ => Ev.now _) (fun hsz => ?_)
  have hs : s.size ≤ 1048576 := by omega
  have hx := (splitP_size s).1
  have g1 := spec_split s hs
  have g2 := impl_split s hs
  generalize splitP s = X at g1 g2 hx
  obtain ⟨X, c⟩ := X
  dsimp only at hx
  obtain ⟨r, m2, k3, hh⟩ := markStringS X 1 (by omega) (by omega)
  have m3 := heldStringS r 1 (by omega) (by omega) hh
  rw [k3] at m3
  refine Ev.bind g1 (Ev.bind g2 (Ev.bind (eqStringS_same X (by omega)) (Ev.bind m2 (Ev.bind m3 (evP ?_ (Ev.now _))))))
  exact ⟨rfl, rfl, by omega, rfl, k3⟩
end Go.Proofs.YtkfcmpalbhmmaaaDoor.Pure
