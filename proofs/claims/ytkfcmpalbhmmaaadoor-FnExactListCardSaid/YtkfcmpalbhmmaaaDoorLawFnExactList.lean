/- The row of FnExactList, out of its plain statement and the printed walk. No condition. -/
import Derived.Test.YtkfcmpalbhmmaaaDoorCards
import Derived.Test.YtkfcmpalbhmmaaaDoorDoor
import Derived.Test.YtkfcmpalbhmmaaaDoorRows
import Derived.Test.YtkfcmpalbhmmaaaDoorPx5
import Derived.Test.YtkfcmpalbhmmaaaDoorPureFnExactList
import Derived.WalkKit
import Derived.ProofKit
import Derived.OpenShut
import Derived.ShutString
import Derived.ChangeOld
import Derived.Below
import Derived.SizedLaws
namespace Go.Proofs.YtkfcmpalbhmmaaaDoor.fnExactList
open Go.ChangeShapes Go.WideShapes Go.ChangeAt Go.RowKit Go.Proofs.YtkfcmpalbhmmaaaDoor.P Go.Proofs.YtkfcmpalbhmmaaaDoor.Op Go.Proofs.YtkfcmpalbhmmaaaDoor.Kinds Go.Proofs.YtkfcmpalbhmmaaaDoorW.PrintWords
open Go.ChangeMaps (open_string shut_string)
theorem own : ownKnob Tryd.prog.godebug = none := by kernel_rfl
theorem laidOut : laidOutB Tryd.prog = true := by kernel_rfl
set_option maxRecDepth 100000 in
theorem lifted (os : Os) (started : os.Started) (H : Type) (enc : TypeId × Value → H) :
    ReturnsInHanded {} Tryd.checked os 12 .any (fun w args => (Rows.fnExactListSpec.pre enc Tryd.prog Tryd.f12 Rows.fnExactListRow.domain false w args ∧ laidMetH Tryd.prog Rows.fnExactListRow.laid w) ∧ sizedMet enc Tryd.prog Tryd.f12 (OpenSpec.ofChange Rows.fnExactListSpec) false w args) (Rows.fnExactListSpec.post enc Tryd.prog Tryd.f12 false true false false) := by
  refine DoorKit.returnsInHanded_door (C := Tryd.checked) (X := fun w _ => laidMetH Tryd.prog Rows.fnExactListRow.laid w) (fun _ _ _ hh h => h.of_heap hh) own started (by kernel_rfl) Tryd.func12
    (ChangeSpec.witness_shaped (enc := enc) (C := Tryd.checked) (os := os) (X := fun w _ => laidMetH Tryd.prog Rows.fnExactListRow.laid w) false (World.laidAll Tryd.prog os Rows.fnExactListRow.laid) #[.agg #[.slice none 0 0, .int .i64 0], .string ByteArray.empty] 8 (World.laidAll_os _ _ _)
      (World.shaped_of_ZipB (by kernel_rfl) (by kernel_rfl)) (by kernel_rfl) (by kernel_rfl) (by kernel_rfl) (DoorKit.met os _)) ?_
  intro W base args ds gs before hval0 hW hcnd hsz0 hL_ hsh_ _
  have hG : P.GOk W := Tryd.laysM146.s1_3 W hsh_
  clear hL_ hsh_
  have hval : ∀ (j : Nat) t v, Tryd.f12.params[j]? = some t → args[j]? = some v → Value.okWide Tryd.prog W .any base t v := hval0
  have hW' := hW
  obtain ⟨p, q, hA0, hV, rfl, hfz, hnd⟩ := hW
  have hA : DataW.TrodAll enc Tryd.prog W 0 (fun _ => true) true Tryd.f12.params.toList args.toList ds p := hA0
  rw [Tryd.params12] at hA hval
  obtain ⟨v0, vs0, d0, ds0, p0, q0, hargs, rfl, rfl, h0, r0⟩ := trodAll_cons hA
  obtain ⟨v1, vs1, d1, ds1, p1, q1, rfl, rfl, rfl, h1, r1⟩ := trodAll_cons r0
  obtain ⟨rfl, rfl, rfl⟩ := trodAll_nil r1
  obtain rfl : args = #[v0, v1] := by cases args; simp_all
  obtain ⟨rfl, rfl⟩ := trodVars_none hV
  have k0 := h0
  have lt0 : ∀ x ∈ p0, x.block < W.heap.size := by obtain ⟨m, hm⟩ := k0; exact DataW.trod_lt m _ _ _ hm
  obtain ⟨cs0, x0, rfl, hK0, hg0⟩ := arg_struct opens40 Tryd.underlying40 (hval 0 40 v0 rfl rfl) h0
  obtain ⟨A0_0, c0_0, hcs0, hc0_0, hr0_0⟩ := k40_open hK0
  obtain rfl : cs0 = #[.slice A0_0 x0.f0.length c0_0, .int .i64 x0.f1] := by cases cs0; simp_all
  obtain ⟨x1, rfl, rfl, rfl, y1⟩ := open_string Tryd.underlying9 (hval 1 9 v1 rfl rfl) h1
  clear hA0 hval0 hsz0 hval
  obtain ⟨k, hk⟩ := Pure.FnExactList x0 x1 hg0 y1
  refine (laws_FnExactList.calls k A0_0 c0_0 x0.f0 x0.f1 x1 true W hr0_0 hc0_0 hk hG).mono fun e W' hpost => ?_
  have he : e = .returned (.bool true) := by first | exact hpost.1 | exact hpost.1.1
  have bel : Below W.heap.size W W' := by first | exact hpost.2 | exact hpost.2.below | exact Drawn0.below hpost.2
  subst he
  exact ⟨_, rfl, _, _, _, [], _, [], hW', trodAll_mk1 (shut_bool Tryd.underlying4 _), (trodAll_cons_mk (Below.trod laidOut (by kernel_rfl) (of_decide_eq_true (by kernel_rfl)) k0 bel lt0) (trodAll_cons_mk (shut_string Tryd.underlying9 y1) trodAll_mk0)), rfl, bel.frame _, fun h => by cases h⟩
theorem and_mk {a b : Bool} (x : a = true) (y : b = true) : (a && b) = true := by rw [x, y]; rfl
set_option maxHeartbeats 8000000 in
theorem closed : joinedFacts Tryd.prog 12 Tryd.f12 Rows.fnExactListSpec Rows.fnExactListRow = true := by
  unfold joinedFacts
  iterate 31 refine and_mk ?_ (by as_aux_lemma => kernel_rfl)
  kernel_rfl
theorem over : Rows.fnExactListRow.holds Tryd.pinned (OpenSpec.ofChange Rows.fnExactListSpec) :=
  OpenClaim.holds_of_wide 12 Tryd.f12 rfl rfl rfl rfl rfl rfl rfl ⟨rfl, rfl, rfl, rfl, rfl⟩ rfl rfl rfl rfl rfl (by kernel_rfl) Tryd.func12 closed
    (of_decide_eq_true (by kernel_rfl)) (by unfold Func.isWrapper; first | (rw [if_pos (by decide +kernel)]; kernel_rfl) | (rw [if_neg (by decide +kernel)]; exact ⟨rfl, rfl⟩))
    (fun os started H enc _ => lifted os started H enc)
theorem carded : Rows.FnExactListCardSaid :=
  Claim7.holds_tied_plain_at .later [] [.data, .pinned] true (true, "54d2b5525ee80580d6a50c7950ac3b011a3c649472ca51a42b9b2040f26a4aa4") false over (fun _ h => by cases h) (by kernel_rfl) (fun _ h => by cases h) fnExactList_row_tie rfl ⟨rfl, rfl⟩ (by kernel_rfl) rfl
    (fun f fn hf hfn => by
      obtain rfl : f = 12 := Option.some.inj ((show Tryd.prog.funcNamed Rows.fnExactListRow.func = some 12 by kernel_rfl).symm.trans hf) |>.symm
      obtain rfl : fn = Tryd.f12 := (Option.some.inj (Tryd.func12.symm.trans hfn)).symm
      exact ⟨by kernel_rfl, fun j t ht => by
        rw [Tryd.params12] at ht
        have hm : t ∈ [40, 9] := by simpa using Array.mem_of_getElem? ht
        have hall : ([40, 9].all fun u => !Tryd.prog.wantsStandIn u) = true := by kernel_rfl
        exact (show Tryd.prog.wantsStandIn t = false by simpa using List.all_eq_true.1 hall t hm)⟩)
    (by kernel_rfl)
theorem proved : Rows.FnExactListCardSaid := carded
#print axioms proved
end Go.Proofs.YtkfcmpalbhmmaaaDoor.fnExactList
namespace Go.Proofs.YtkfcmpalbhmmaaaDoor
theorem fnExactList_holds : Rows.FnExactListCardSaid := fnExactList.proved
end Go.Proofs.YtkfcmpalbhmmaaaDoor
