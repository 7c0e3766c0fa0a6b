/- FnBelow returns true for all bytes: of two drawn paths the program's Below and the reference's answer alike; both ways only for the same path, and the upper one is not longer. No condition. -/
import Derived.Test.YtkfcmpalbhmmaaaDoorQbl
import Derived.Test.YtkfcmpalbhmmaaaDoorQdp
import Derived.Test.YtkfcmpalbhmmaaaDoorQbm
import Derived.Test.YtkfcmpalbhmmaaaDoorPx1
import Derived.Test.YtkfcmpalbhmmaaaDoorPx2
namespace Go.Proofs.YtkfcmpalbhmmaaaDoor.Pure
open Go.RowKit Go.Proofs.YtkfcmpalbhmmaaaDoor.P Go.Proofs.YtkfcmpalbhmmaaaDoor.Q Go.Proofs.YtkfcmpalbhmmaaaDoorW.PrintWords Go.Proofs.YtkfcmpalbhmmaaaDoorW.PrintLast Go.Proofs.YtkfcmpalbhmmaaaDoorW.PrintMore

theorem FnBelow : laws_FnBelow.Pure := by
  intro l hl hm hw
  have hb : Byt l := fun x hx => wf8 (hw x hx)
  apply Ev.rounds
  unfold laws_FnBelow.f laws_big.f
  simp only [Option.bind_some]
  refine evI' (fun _ => Ev.now _) (fun hbig => ?_)
  have hsm : l.length ≤ 1048576 := by simp at hbig; omega
  obtain ⟨h1, e1, c1⟩ := l1New_ev l hb (by omega)
  obtain ⟨a, i2, h2, e2, ha, c2⟩ := l2Any_ev c1 h1
  obtain ⟨t, i3, h3, e3, c3⟩ := l1Once_ev c2 h2 2
  have eD : ∃ p : ByteArray × ByteArray, Ev (fun k => spec_DrawBelow.f k l) p ∧ p.1.size ≤ 1000 ∧ p.2.size ≤ 1000 := by
    cases t with
    | true =>
      obtain ⟨s, i4, h4, e4, hs, c4⟩ := l1Str_ev c3 h3 [(⟨#[]⟩ : ByteArray), (⟨#[47, 98]⟩ : ByteArray), (⟨#[120]⟩ : ByteArray)] (by simp)
      have hs' := size_of_all _ 2 (by decide) s hs
      refine ⟨(a, a ++ s), ?_, by simp only; omega, by simp only [ByteArray.size_append]; omega⟩
      unfold spec_DrawBelow.f
      refine Ev.bind e1 (Ev.bind e2 ?_)
      simp only [e3, e4, Option.bind_some]
      exact evP trivial (evP (by omega) (Ev.now _))
    | false =>
      obtain ⟨s, i4, h4, e4, hs, c4⟩ := l2Any_ev c3 h3
      refine ⟨(a, s), ?_, by simp only; omega, by simp only; omega⟩
      unfold spec_DrawBelow.f
      refine Ev.bind e1 (Ev.bind e2 ?_)
      simp only [e3, Option.bind_some]
      exact evN (by simp) (Ev.bind e4 (Ev.now _))
  obtain ⟨⟨p, q⟩, eD, hp, hq⟩ := eD
  simp only at hp hq
  refine Ev.bind eD (Ev.bind (impl_below p q (by omega) (by omega)) (Ev.bind (spec_below p q (by omega) (by omega)) (evP (by simp) ?_)))
  by_cases c : belowP p q = true
  · refine evP c (Ev.bind (impl_below q p (by omega) (by omega)) ?_)
    have hle := below_le p q c
    by_cases d : belowP q p = true
    · have := below_anti p q c d
      subst this
      exact evP d (evP rfl (evC (Ev.now _) (by simp)))
    · exact evN d (evC (Ev.now _) (by simp; omega))
  · exact evN c (Ev.now _)
end Go.Proofs.YtkfcmpalbhmmaaaDoor.Pure
