/- The row of FnExactPathsOf, out of its plain statement and the printed walk. No condition. -/
import Derived.Test.YtolkhimbfegkkaaGreatRows
import Derived.Test.YtolkhimbfegkkaaGreatPx22
import Derived.Test.YtolkhimbfegkkaaGreatPureFnExactPathsOf
import Derived.WalkKit
import Derived.ProofKit
import Derived.OpenShut
import Derived.ShutString
import Derived.ChangeOld
import Derived.Below
import Derived.SizedLaws
namespace Go.Proofs.YtolkhimbfegkkaaGreat.fnExactPathsOf
open Go.ChangeShapes Go.WideShapes Go.ChangeAt Go.RowKit Go.Proofs.YtolkhimbfegkkaaGreat.P Go.Proofs.YtolkhimbfegkkaaGreat.Op Go.Proofs.YtolkhimbfegkkaaGreat.Kinds Go.Proofs.YtolkhimbfegkkaaGreatW.PrintWords
open Go.ChangeMaps (open_string shut_string)
theorem own : ownKnob Tryz.prog.godebug = none := by kernel_rfl
theorem laidOut : laidOutB Tryz.prog = true := by kernel_rfl
set_option maxRecDepth 100000 in
theorem lifted (os : Os) (started : os.Started) (H : Type) (enc : TypeId × Value → H) :
    ReturnsInHanded {} Tryz.checked os 3 .any (Rows.fnExactPathsOfSpec.pre6 enc Tryz.prog Tryz.f3 Rows.fnExactPathsOfRow.domain false) (Rows.fnExactPathsOfSpec.post enc Tryz.prog Tryz.f3 false true false false) := by
  refine returnsInHanded_of_change_sized (C := Tryz.checked) own started (by kernel_rfl) Tryz.func3
    (ChangeSpec.witness6 (enc := enc) (C := Tryz.checked) false ⟨#[], #[.agg #[.slice none 0 0, .int .i64 0]], []⟩ 8 (by kernel_rfl) (by kernel_rfl) (by kernel_rfl) (by kernel_rfl)) ?_
  intro W base args ds gs before hval0 hW hcnd hsz0 _
  have hval : ∀ (j : Nat) t v, Tryz.f3.params[j]? = some t → args[j]? = some v → Value.okWide Tryz.prog W .any base t v := hval0
  have hW' := hW
  obtain ⟨p, q, hA0, hV, rfl, hfz, hnd⟩ := hW
  have hA : DataW.TrodAll enc Tryz.prog W 0 (fun _ => true) true Tryz.f3.params.toList args.toList ds p := hA0
  rw [Tryz.params3] at hA hval
  obtain ⟨v0, vs0, d0, ds0, p0, q0, hargs, rfl, rfl, h0, r0⟩ := trodAll_cons hA
  obtain ⟨rfl, rfl, rfl⟩ := trodAll_nil r0
  obtain rfl : args = #[v0] := by cases args; simp_all
  obtain ⟨rfl, rfl⟩ := trodVars_none hV
  have k0 := h0
  have lt0 : ∀ x ∈ p0, x.block < W.heap.size := by obtain ⟨m, hm⟩ := k0; exact DataW.trod_lt m _ _ _ hm
  obtain ⟨cs0, x0, rfl, hK0, hg0⟩ := arg_struct opens24 Tryz.underlying24 (hval 0 24 v0 rfl rfl) h0
  obtain ⟨A0_0, c0_0, hcs0, hc0_0, hr0_0⟩ := k24_open hK0
  obtain rfl : cs0 = #[.slice A0_0 x0.f0.length c0_0, .int .i64 x0.f1] := by cases cs0; simp_all
  clear hA0 hval0 hsz0 hval
  obtain ⟨k, hk⟩ := Pure.FnExactPathsOf x0 hg0
  refine (laws_FnExactPathsOf.calls k A0_0 c0_0 x0.f0 x0.f1 true W hr0_0 hc0_0 hk).mono fun e W' hpost => ?_
  have he : e = .returned (.bool true) := by first | exact hpost.1 | exact hpost.1.1
  have bel : Below W.heap.size W W' := by first | exact hpost.2 | exact hpost.2.below | exact Drawn0.below hpost.2
  subst he
  exact ⟨_, rfl, _, _, _, [], _, [], hW', trodAll_mk1 (shut_bool Tryz.underlying4 _), (trodAll_cons_mk (Below.trod laidOut (by kernel_rfl) (of_decide_eq_true (by kernel_rfl)) k0 bel lt0) trodAll_mk0), rfl, bel.frame _, fun h => by cases h⟩
theorem and_mk {a b : Bool} (x : a = true) (y : b = true) : (a && b) = true := by rw [x, y]; rfl
set_option maxHeartbeats 8000000 in
theorem closed : joinedFacts Tryz.prog 3 Tryz.f3 Rows.fnExactPathsOfSpec Rows.fnExactPathsOfRow = true := by
  unfold joinedFacts
  iterate 31 refine and_mk ?_ (by as_aux_lemma => kernel_rfl)
  kernel_rfl
theorem over : Rows.fnExactPathsOfRow.holds Tryz.pinned (OpenSpec.ofChange Rows.fnExactPathsOfSpec) :=
  OpenClaim.holds_of_wide 3 Tryz.f3 rfl rfl rfl rfl rfl rfl rfl ⟨rfl, rfl, rfl, rfl, rfl⟩ rfl rfl rfl rfl rfl (by kernel_rfl) Tryz.func3 closed
    (of_decide_eq_true (by kernel_rfl)) (by unfold Func.isWrapper; first | (rw [if_pos (by decide +kernel)]; kernel_rfl) | (rw [if_neg (by decide +kernel)]; exact ⟨rfl, rfl⟩))
    (fun os started H enc _ => lifted os started H enc)
theorem proved : Rows.FnExactPathsOfSaid := over
#print axioms proved
end Go.Proofs.YtolkhimbfegkkaaGreat.fnExactPathsOf
namespace Go.Proofs.YtolkhimbfegkkaaGreat
theorem fnExactPathsOf_holds : Rows.FnExactPathsOfSaid := fnExactPathsOf.proved
end Go.Proofs.YtolkhimbfegkkaaGreat
