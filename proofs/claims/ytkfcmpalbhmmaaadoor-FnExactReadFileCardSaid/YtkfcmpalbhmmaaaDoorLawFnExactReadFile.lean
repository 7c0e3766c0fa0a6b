/- The row of FnExactReadFile, out of its plain statement and the printed walk. No condition. -/
import Derived.Test.YtkfcmpalbhmmaaaDoorCards
import Derived.Test.YtkfcmpalbhmmaaaDoorDoor
import Derived.Test.YtkfcmpalbhmmaaaDoorRows
import Derived.Test.YtkfcmpalbhmmaaaDoorPx5
import Derived.Test.YtkfcmpalbhmmaaaDoorPureFnExactReadFile
import Derived.WalkKit
import Derived.ProofKit
import Derived.OpenShut
import Derived.ShutString
import Derived.ChangeOld
import Derived.Below
import Derived.SizedLaws
namespace Go.Proofs.YtkfcmpalbhmmaaaDoor.fnExactReadFile
open Go.ChangeShapes Go.WideShapes Go.ChangeAt Go.RowKit Go.Proofs.YtkfcmpalbhmmaaaDoor.P Go.Proofs.YtkfcmpalbhmmaaaDoor.Op Go.Proofs.YtkfcmpalbhmmaaaDoor.Kinds Go.Proofs.YtkfcmpalbhmmaaaDoorW.PrintWords
open Go.ChangeMaps (open_string shut_string)
theorem own : ownKnob Tryd.prog.godebug = none := by kernel_rfl
theorem laidOut : laidOutB Tryd.prog = true := by kernel_rfl
set_option maxRecDepth 100000 in
theorem lifted (os : Os) (started : os.Started) (H : Type) (enc : TypeId × Value → H) :
    ReturnsInHanded {} Tryd.checked os 11 .any (fun w args => (Rows.fnExactReadFileSpec.pre enc Tryd.prog Tryd.f11 Rows.fnExactReadFileRow.domain false w args ∧ laidMetH Tryd.prog Rows.fnExactReadFileRow.laid w) ∧ sizedMet enc Tryd.prog Tryd.f11 (OpenSpec.ofChange Rows.fnExactReadFileSpec) false w args) (Rows.fnExactReadFileSpec.post enc Tryd.prog Tryd.f11 false true false false) := by
  refine DoorKit.returnsInHanded_door (C := Tryd.checked) (X := fun w _ => laidMetH Tryd.prog Rows.fnExactReadFileRow.laid w) (fun _ _ _ hh h => h.of_heap hh) own started (by kernel_rfl) Tryd.func11
    (ChangeSpec.witness_shaped (enc := enc) (C := Tryd.checked) (os := os) (X := fun w _ => laidMetH Tryd.prog Rows.fnExactReadFileRow.laid w) false (World.laidAll Tryd.prog os Rows.fnExactReadFileRow.laid) #[.agg #[.slice none 0 0, .int .i64 0], .string ByteArray.empty, .int .i64 0, .int .i64 0] 8 (World.laidAll_os _ _ _)
      (World.shaped_of_ZipB (by kernel_rfl) (by kernel_rfl)) (by kernel_rfl) (by kernel_rfl) (by kernel_rfl) (DoorKit.met os _)) ?_
  intro W base args ds gs before hval0 hW hcnd hsz0 hL_ hsh_ _
  have hG : P.GOk W := Tryd.laysM146.s1_3 W hsh_
  clear hL_ hsh_
  have hval : ∀ (j : Nat) t v, Tryd.f11.params[j]? = some t → args[j]? = some v → Value.okWide Tryd.prog W .any base t v := hval0
  have hW' := hW
  obtain ⟨p, q, hA0, hV, rfl, hfz, hnd⟩ := hW
  have hA : DataW.TrodAll enc Tryd.prog W 0 (fun _ => true) true Tryd.f11.params.toList args.toList ds p := hA0
  rw [Tryd.params11] at hA hval
  obtain ⟨v0, vs0, d0, ds0, p0, q0, hargs, rfl, rfl, h0, r0⟩ := trodAll_cons hA
  obtain ⟨v1, vs1, d1, ds1, p1, q1, rfl, rfl, rfl, h1, r1⟩ := trodAll_cons r0
  obtain ⟨v2, vs2, d2, ds2, p2, q2, rfl, rfl, rfl, h2, r2⟩ := trodAll_cons r1
  obtain ⟨v3, vs3, d3, ds3, p3, q3, rfl, rfl, rfl, h3, r3⟩ := trodAll_cons r2
  obtain ⟨rfl, rfl, rfl⟩ := trodAll_nil r3
  obtain rfl : args = #[v0, v1, v2, v3] := by cases args; simp_all
  obtain ⟨rfl, rfl⟩ := trodVars_none hV
  have k0 := h0
  have lt0 : ∀ x ∈ p0, x.block < W.heap.size := by obtain ⟨m, hm⟩ := k0; exact DataW.trod_lt m _ _ _ hm
  obtain ⟨cs0, x0, rfl, hK0, hg0⟩ := arg_struct opens40 Tryd.underlying40 (hval 0 40 v0 rfl rfl) h0
  obtain ⟨A0_0, c0_0, hcs0, hc0_0, hr0_0⟩ := k40_open hK0
  obtain rfl : cs0 = #[.slice A0_0 x0.f0.length c0_0, .int .i64 x0.f1] := by cases cs0; simp_all
  obtain ⟨x1, rfl, rfl, rfl, y1⟩ := open_string Tryd.underlying9 (hval 1 9 v1 rfl rfl) h1
  obtain ⟨x2, rfl, rfl, rfl, w2⟩ := open_int Tryd.underlying3 (hval 2 3 v2 rfl rfl) h2
  obtain ⟨x3, rfl, rfl, rfl, w3⟩ := open_int Tryd.underlying3 (hval 3 3 v3 rfl rfl) h3
  clear hA0 hval0 hsz0 hval
  obtain ⟨k, hk⟩ := Pure.FnExactReadFile x0 x1 x2 x3 hg0 y1 w2 w3
  refine (laws_FnExactReadFile.calls k A0_0 c0_0 x0.f0 x0.f1 x1 x2 x3 true W hr0_0 hc0_0 hk hG).mono fun e W' hpost => ?_
  have he : e = .returned (.bool true) := by first | exact hpost.1 | exact hpost.1.1
  have bel : Below W.heap.size W W' := by first | exact hpost.2 | exact hpost.2.below | exact Drawn0.below hpost.2
  subst he
  exact ⟨_, rfl, _, _, _, [], _, [], hW', trodAll_mk1 (shut_bool Tryd.underlying4 _), (trodAll_cons_mk (Below.trod laidOut (by kernel_rfl) (of_decide_eq_true (by kernel_rfl)) k0 bel lt0) (trodAll_cons_mk (shut_string Tryd.underlying9 y1) (trodAll_cons_mk (shut_int Tryd.underlying3 w2) (trodAll_cons_mk (shut_int Tryd.underlying3 w3) trodAll_mk0)))), rfl, bel.frame _, fun h => by cases h⟩
theorem and_mk {a b : Bool} (x : a = true) (y : b = true) : (a && b) = true := by rw [x, y]; rfl
set_option maxHeartbeats 8000000 in
theorem closed : joinedFacts Tryd.prog 11 Tryd.f11 Rows.fnExactReadFileSpec Rows.fnExactReadFileRow = true := by
  unfold joinedFacts
  iterate 31 refine and_mk ?_ (by as_aux_lemma => kernel_rfl)
  kernel_rfl
theorem over : Rows.fnExactReadFileRow.holds Tryd.pinned (OpenSpec.ofChange Rows.fnExactReadFileSpec) :=
  OpenClaim.holds_of_wide 11 Tryd.f11 rfl rfl rfl rfl rfl rfl rfl ⟨rfl, rfl, rfl, rfl, rfl⟩ rfl rfl rfl rfl rfl (by kernel_rfl) Tryd.func11 closed
    (of_decide_eq_true (by kernel_rfl)) (by unfold Func.isWrapper; first | (rw [if_pos (by decide +kernel)]; kernel_rfl) | (rw [if_neg (by decide +kernel)]; exact ⟨rfl, rfl⟩))
    (fun os started H enc _ => lifted os started H enc)
theorem carded : Rows.FnExactReadFileCardSaid :=
  Claim7.holds_tied_plain_at .later [] [.data, .pinned] true (true, "54d2b5525ee80580d6a50c7950ac3b011a3c649472ca51a42b9b2040f26a4aa4") false over (fun _ h => by cases h) (by kernel_rfl) (fun _ h => by cases h) fnExactReadFile_row_tie rfl ⟨rfl, rfl⟩ (by kernel_rfl) rfl
    (fun f fn hf hfn => by
      obtain rfl : f = 11 := Option.some.inj ((show Tryd.prog.funcNamed Rows.fnExactReadFileRow.func = some 11 by kernel_rfl).symm.trans hf) |>.symm
      obtain rfl : fn = Tryd.f11 := (Option.some.inj (Tryd.func11.symm.trans hfn)).symm
      exact ⟨by kernel_rfl, fun j t ht => by
        rw [Tryd.params11] at ht
        have hm : t ∈ [40, 9, 3, 3] := by simpa using Array.mem_of_getElem? ht
        have hall : ([40, 9, 3, 3].all fun u => !Tryd.prog.wantsStandIn u) = true := by kernel_rfl
        exact (show Tryd.prog.wantsStandIn t = false by simpa using List.all_eq_true.1 hall t hm)⟩)
    (by kernel_rfl)
theorem proved : Rows.FnExactReadFileCardSaid := carded
#print axioms proved
end Go.Proofs.YtkfcmpalbhmmaaaDoor.fnExactReadFile
namespace Go.Proofs.YtkfcmpalbhmmaaaDoor
theorem fnExactReadFile_holds : Rows.FnExactReadFileCardSaid := fnExactReadFile.proved
end Go.Proofs.YtkfcmpalbhmmaaaDoor
