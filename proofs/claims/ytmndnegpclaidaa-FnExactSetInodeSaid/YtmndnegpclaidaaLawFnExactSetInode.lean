/- The row of FnExactSetInode, out of its plain statement and the printed walk. No condition. -/
import Derived.Test.YtmndnegpclaidaaRows
import Derived.Test.YtmndnegpclaidaaPx6
import Derived.Test.YtmndnegpclaidaaPureFnExactSetInode
import Derived.WalkKit
import Derived.ProofKit
import Derived.OpenShut
import Derived.ShutString
import Derived.ChangeOld
import Derived.Below
import Derived.SizedLaws
namespace Go.Proofs.Ytmndnegpclaidaa.fnExactSetInode
open Go.ChangeShapes Go.WideShapes Go.ChangeAt Go.RowKit Go.Proofs.Ytmndnegpclaidaa.P Go.Proofs.Ytmndnegpclaidaa.Op Go.Proofs.Ytmndnegpclaidaa.Kinds Go.Proofs.YtmndnegpclaidaaW.PrintWords
open Go.ChangeMaps (open_string shut_string)
theorem own : ownKnob Try.prog.godebug = none := by kernel_rfl
theorem laidOut : laidOutB Try.prog = true := by kernel_rfl
set_option maxRecDepth 100000 in
theorem lifted (os : Os) (started : os.Started) (H : Type) (enc : TypeId × Value → H) :
    ReturnsInHanded {} Try.checked os 3 .any (Rows.fnExactSetInodeSpec.pre6 enc Try.prog Try.f3 Rows.fnExactSetInodeRow.domain false) (Rows.fnExactSetInodeSpec.post enc Try.prog Try.f3 false true false false) := by
  refine returnsInHanded_of_change_sized (C := Try.checked) own started (by kernel_rfl) Try.func3
    (ChangeSpec.witness6 (enc := enc) (C := Try.checked) false ⟨#[], #[.agg #[.slice none 0 0, .int .i64 0], .agg #[.int .i64 0, .int .i64 0, .int .i64 0, .slice none 0 0, .slice none 0 0, .slice none 0 0]], []⟩ 8 (by kernel_rfl) (by kernel_rfl) (by kernel_rfl) (by kernel_rfl)) ?_
  intro W base args ds gs before hval0 hW hcnd hsz0 _
  have hval : ∀ (j : Nat) t v, Try.f3.params[j]? = some t → args[j]? = some v → Value.okWide Try.prog W .any base t v := hval0
  have hW' := hW
  obtain ⟨p, q, hA0, hV, rfl, hfz, hnd⟩ := hW
  have hA : DataW.TrodAll enc Try.prog W 0 (fun _ => true) true Try.f3.params.toList args.toList ds p := hA0
  rw [Try.params3] at hA hval
  obtain ⟨v0, vs0, d0, ds0, p0, q0, hargs, rfl, rfl, h0, r0⟩ := trodAll_cons hA
  obtain ⟨v1, vs1, d1, ds1, p1, q1, rfl, rfl, rfl, h1, r1⟩ := trodAll_cons r0
  obtain ⟨rfl, rfl, rfl⟩ := trodAll_nil r1
  obtain rfl : args = #[v0, v1] := by cases args; simp_all
  obtain ⟨rfl, rfl⟩ := trodVars_none hV
  have k0 := h0
  have lt0 : ∀ x ∈ p0, x.block < W.heap.size := by obtain ⟨m, hm⟩ := k0; exact DataW.trod_lt m _ _ _ hm
  obtain ⟨cs0, x0, rfl, hK0, hg0⟩ := arg_struct opens24 Try.underlying24 (hval 0 24 v0 rfl rfl) h0
  obtain ⟨A0_0, c0_0, hcs0, hc0_0, hr0_0⟩ := k24_open hK0
  obtain rfl : cs0 = #[.slice A0_0 x0.f0.length c0_0, .int .i64 x0.f1] := by cases cs0; simp_all
  have k1 := h1
  have lt1 : ∀ x ∈ p1, x.block < W.heap.size := by obtain ⟨m, hm⟩ := k1; exact DataW.trod_lt m _ _ _ hm
  obtain ⟨cs1, x1, rfl, hK1, hg1⟩ := arg_struct opens29 Try.underlying29 (hval 1 29 v1 rfl rfl) h1
  obtain ⟨A1_3, c1_3, A1_4, c1_4, A1_5, c1_5, hcs1, hc1_3, hr1_3, hc1_4, hr1_4, hc1_5, hr1_5⟩ := k29_open hK1
  obtain rfl : cs1 = #[.int .i64 x1.f0, .int .i64 x1.f1, .int .i64 x1.f2, .slice A1_3 x1.f3.length c1_3, .slice A1_4 x1.f4.length c1_4, .slice A1_5 x1.f5.length c1_5] := by cases cs1; simp_all
  clear hA0 hval0 hsz0 hval
  obtain ⟨k, hk⟩ := Pure.FnExactSetInode x0 x1 hg0 hg1
  refine (laws_FnExactSetInode.calls k A0_0 c0_0 x0.f0 x0.f1 x1.f0 x1.f1 x1.f2 A1_3 c1_3 x1.f3 A1_4 c1_4 x1.f4 A1_5 c1_5 x1.f5 true W hr0_0 hc0_0 hr1_3 hc1_3 hr1_4 hc1_4 hr1_5 hc1_5 hk).mono fun e W' hpost => ?_
  have he : e = .returned (.bool true) := by first | exact hpost.1 | exact hpost.1.1
  have bel : Below W.heap.size W W' := by first | exact hpost.2 | exact hpost.2.below | exact Drawn0.below hpost.2
  subst he
  exact ⟨_, rfl, _, _, _, [], _, [], hW', trodAll_mk1 (shut_bool Try.underlying4 _), (trodAll_cons_mk (Below.trod laidOut (by kernel_rfl) (of_decide_eq_true (by kernel_rfl)) k0 bel lt0) (trodAll_cons_mk (Below.trod laidOut (by kernel_rfl) (of_decide_eq_true (by kernel_rfl)) k1 bel lt1) trodAll_mk0)), rfl, bel.frame _, fun h => by cases h⟩
theorem and_mk {a b : Bool} (x : a = true) (y : b = true) : (a && b) = true := by rw [x, y]; rfl
set_option maxHeartbeats 8000000 in
theorem closed : joinedFacts Try.prog 3 Try.f3 Rows.fnExactSetInodeSpec Rows.fnExactSetInodeRow = true := by
  unfold joinedFacts
  iterate 31 refine and_mk ?_ (by as_aux_lemma => kernel_rfl)
  kernel_rfl
theorem over : Rows.fnExactSetInodeRow.holds Try.pinned (OpenSpec.ofChange Rows.fnExactSetInodeSpec) :=
  OpenClaim.holds_of_wide 3 Try.f3 rfl rfl rfl rfl rfl rfl rfl ⟨rfl, rfl, rfl, rfl, rfl⟩ rfl rfl rfl rfl rfl (by kernel_rfl) Try.func3 closed
    (of_decide_eq_true (by kernel_rfl)) (by unfold Func.isWrapper; first | (rw [if_pos (by decide +kernel)]; kernel_rfl) | (rw [if_neg (by decide +kernel)]; exact ⟨rfl, rfl⟩))
    (fun os started H enc _ => lifted os started H enc)
theorem proved : Rows.FnExactSetInodeSaid := over
#print axioms proved
end Go.Proofs.Ytmndnegpclaidaa.fnExactSetInode
namespace Go.Proofs.Ytmndnegpclaidaa
theorem fnExactSetInode_holds : Rows.FnExactSetInodeSaid := fnExactSetInode.proved
end Go.Proofs.Ytmndnegpclaidaa
