/- FnExactGetAttr returns true for every table and strings: the program's GetAttr and the reference's answer alike, and the table is left as it was. No condition. -/
import Derived.Test.YtkfcmpalbhmmaaaDoorAskFnExactGetAttr
import Derived.Test.YtkfcmpalbhmmaaaDoorQga
import Derived.Test.YtkfcmpalbhmmaaaDoorQg2
import Derived.Test.YtkfcmpalbhmmaaaDoorPx0
import Derived.Test.YtkfcmpalbhmmaaaDoorPx4
namespace Go.Proofs.YtkfcmpalbhmmaaaDoor.Pure
open Go.RowKit Go.Proofs.YtkfcmpalbhmmaaaDoor.P Go.Proofs.YtkfcmpalbhmmaaaDoor.Q Go.Proofs.YtkfcmpalbhmmaaaDoor.Kinds Go.Proofs.YtkfcmpalbhmmaaaDoorW.PrintWords Go.Proofs.YtkfcmpalbhmmaaaDoorW.PrintLast Go.Proofs.YtkfcmpalbhmmaaaDoorW.PrintMore

theorem inoA_map (l : List S115) (h : ∀ x ∈ l, InoS x) : ∀ x ∈ l.map iInode, InoA x := fun x hx => by
  obtain ⟨h3, h4, h5⟩ := small_map l h x hx
  exact ⟨h3, h4, h5⟩
theorem FnExactGetAttr : AskFnExactGetAttr.Pure := by
  rintro ⟨l, nx⟩ s name ⟨⟨hl, hg⟩, hn⟩ _ _
  have hM : maxLen = 9223372036854775807 := rfl
  simp only [hM] at hl
  apply Ev.rounds
  unfold laws_FnExactGetAttr.f
  refine evI' (fun _ => Ev.now _) (fun hsz => evI' (fun _ => Ev.now _) (fun _ => ?_))
  have hs : s.size ≤ 1048576 := by omega
  obtain ⟨R, hR, hz, _⟩ := szTab_ev l nx 1048576 (by omega) (by omega) hl (good_tab l hg)
  refine Ev.bind hR (evI' (fun _ => Ev.now _) (fun h => ?_))
  have hz := hz (by omega)
  obtain ⟨h1, h2⟩ := tab_small l (by omega)
  have ht := toTab_ev l nx h1 (inoB_of l h2)
  have ha := inoA_map l h2
  have hlen : (l.map iInode).length ≤ 1048576 := by simpa using h1
  refine Ev.bind ht (Ev.bind (spec_getAttr _ nx s name hlen ha hs) (Ev.bind ht (Ev.bind (impl_getAttr _ nx s name hlen ha hs) (evP rfl ?_))))
  apply evPre
  simp only [laws_FnExactGetAttr.j0]
  refine evN (by simp) (Ev.bind ht (Ev.bind (eqTab_refl _ nx (by simp; omega) (iInode_b l (inoB_of l h2))) ?_))
  exact evP rfl (Ev.now _)
end Go.Proofs.YtkfcmpalbhmmaaaDoor.Pure
