-- By this session's own program (wip/myprint.py) out of the translation; Lean checks it.
import Derived.Test.YtkfcmpalbhmmaaaDoorPx0
import Derived.Test.YtkfcmpalbhmmaaaDoorPx1
namespace Go.Proofs.YtkfcmpalbhmmaaaDoor.P
open Go.RowKit Go.Proofs.YtkfcmpalbhmmaaaDoorW.PrintWords Go.Proofs.YtkfcmpalbhmmaaaDoorW.PrintLast Go.Proofs.YtkfcmpalbhmmaaaDoorW.PrintMore
attribute [local go_sem] max2_int min2_int max_two min_two max_three min_three max_four min_four   -- for this text's walks alone
set_option linter.unusedVariables false
set_option linter.unusedSimpArgs false

/-! ### spec_DrawBelow: function 22 -/
def spec_DrawBelow.f (k : Nat) (l0 : List Int) : Option (ByteArray × ByteArray) := (spec_l1New.f k l0).bind fun bt207 => ((spec_l2Any.f k bt207.1 bt207.2.1 bt207.2.2).bind fun bt211 => ((spec_l1Once.f bt207.1 bt211.2.1 bt211.2.2 2).bind fun bt214 => (if bt214.1 = true then ((spec_l1Str.f bt207.1 bt214.2.1 bt214.2.2 (([(⟨#[]⟩ : ByteArray), (⟨#[47, 98]⟩ : ByteArray), (⟨#[120]⟩ : ByteArray)] : List ByteArray))).bind fun bt220 => (if bt211.1.size + bt220.1.size ≤ 9223372036854775807 then (some (bt211.1, bt211.1 ++ bt220.1)) else (none))) else ((spec_l2Any.f k bt207.1 bt214.2.1 bt214.2.2).bind fun bt223 => (some (bt211.1, bt223.1))))))
set_option maxHeartbeats 8000000 in
set_option maxRecDepth 100000 in
theorem spec_DrawBelow.calls (k : Nat) (A0 : Option Addr) (c0 : Nat) (l0 : List Int) (r1 : ByteArray) (r2 : ByteArray) (w : World) (hr0 : Kd.C (Kd.int .u8) w A0 l0.length l0) (hc0 : l0.length ≤ c0) (h : spec_DrawBelow.f k l0 = some (r1, r2)) :
  Calls Tryd.prog 22 #[.slice A0 l0.length c0] w fun e w' => e = .returned (.tuple #[.string r1, .string r2]) ∧ Below w.heap.size w w' := by
 have HR0 := Aside0.mk hr0
 have HC0 := Aside0.mk hc0
 clear hr0 hc0
 have HB := Aside0.mk (Below.refl w.heap.size w)
 unfold spec_DrawBelow.f at h
 have H := h
 clear h
 replace H := bA H
 obtain ⟨⟨t207, t208, t209⟩, A2, H⟩ := H
 try dsimp only at H
 replace H := bA H
 obtain ⟨⟨t211, t212, t213⟩, A3, H⟩ := H
 try dsimp only at H
 replace H := bA H
 obtain ⟨⟨t214, t215, t216⟩, A4, H⟩ := H
 try dsimp only at H
 replace H := itB H
 rcases H with ⟨rfl, H⟩ | ⟨rfl, H⟩
 ·obtain ⟨y217, hy217⟩ : ∃ y_ : List ByteArray, y_ = (([(⟨#[]⟩ : ByteArray), (⟨#[47, 98]⟩ : ByteArray), (⟨#[120]⟩ : ByteArray)] : List ByteArray)) := ⟨_, rfl⟩
  replace H : ((spec_l1Str.f t207 t215 t216 y217).bind fun bt220 => (if t211.size + bt220.1.size ≤ 9223372036854775807 then (some (t211, t211 ++ bt220.1)) else (none))) = some (r1, r2) := by first | (rw [hy217]; with_reducible exact H) | (have H2_ := (Option.bind_some _ _).symm.trans H; rw [hy217]; with_reducible exact H2_) | (have H2_ := (Option.bind_some _ _).symm.trans H; with_reducible exact H2_) | with_reducible exact H | (rw [hy217]; exact H) | exact H
  have Ny217 := Aside0.mk hy217
  clear hy217
  replace H := bA H
  obtain ⟨⟨t220, t221, t222⟩, A6, H⟩ := H
  try dsimp only at H
  by_cases c7 : t211.size + t220.size ≤ 9223372036854775807
  ·rw [if_pos c7] at H
   have c7b0 := eq_true c7
   have c7b1 : decide (t211.size + t220.size ≤ 9223372036854775807) = true := decide_eq_true c7
   try have c7b2 : (9223372036854775807 < t211.size + t220.size) = False := eq_false (Nat.not_lt.2 c7)
   simp only [Option.some.injEq, Prod.mk.injEq] at H
   obtain ⟨rfl, rfl⟩ := H
   go_enter Tryd.func22, Tryd.ntmps22
   go_wp2_with (first | ((with_reducible refine gate_callee (f := 57) rfl ?_); refine gl_ 7 Tryd.func57 (spec_l1New.calls k _ _ l0 t207 t208 t209 w _ ?side1 HR0.out HC0.out A2.out) ?_; (case side1 => repeat (first | (with_reducible first | exact HB.out | apply below_alloc | apply pw_below_drewN | apply below_drew1) | exact HB.out)); rintro e w8 ⟨g210, rfl, hi, hb, hb2⟩; refine ⟨_, rfl, ?_⟩; have HI210 := Aside0.mk (hi); replace HB := Aside0.mk (hb); (try clear hi)) | ((with_reducible refine gate_callee (f := 58) rfl ?_); refine gl_ 9 Tryd.func58 (spec_l2Any.calls k g210 t207 t208 t209 t211 t212 t213 w _ ?side1 ?side2 A3.out) ?_; (case side1 => repeat (first | (with_reducible first | exact HI210.out | apply IsS100.alloc | apply IsS100.drewN | apply IsS100.drew | apply IsS100.set_1 | apply IsS100.set_2) | exact HI210.out)); (case side2 => repeat (first | (with_reducible first | exact HB.out | apply below_alloc | apply pw_below_drewN | apply below_drew1 | refine below_set ?_ (IsS100.ge HI210.out)) | exact HB.out)); rintro e w9 ⟨rfl, hi, hb, hk⟩; refine ⟨_, rfl, ?_⟩; replace HI210 := Aside0.mk (hi); replace HB := Aside0.mk (hb); (try clear hk); (try clear hi)) | ((with_reducible refine gate_callee (f := 59) rfl ?_); refine gl_ 11 Tryd.func59 (spec_l1Once.calls g210 t207 t212 t213 2 true t215 t216 w _ ?side1 ?side2 A4.out) ?_; (case side1 => repeat (first | (with_reducible first | exact HI210.out | apply IsS100.alloc | apply IsS100.drewN | apply IsS100.drew | apply IsS100.set_1 | apply IsS100.set_2) | exact HI210.out)); (case side2 => repeat (first | (with_reducible first | exact HB.out | apply below_alloc | apply pw_below_drewN | apply below_drew1 | refine below_set ?_ (IsS100.ge HI210.out)) | exact HB.out)); rintro e w10 ⟨rfl, hi, hb, hk⟩; refine ⟨_, rfl, ?_⟩; replace HI210 := Aside0.mk (hi); replace HB := Aside0.mk (hb); (try clear hk); (try clear hi)) | ((with_reducible refine gate_dst (N := 15) rfl ?_); refine Kd.R_lit Kd.string _ 9 ?hg (N := 15) ?hd (xs := ([(⟨#[]⟩ : ByteArray), (⟨#[47, 98]⟩ : ByteArray), (⟨#[120]⟩ : ByteArray)] : List ByteArray)) (inner := [.string (⟨#[]⟩ : ByteArray), .string (⟨#[47, 98]⟩ : ByteArray), .string (⟨#[120]⟩ : ByteArray)]) (ok := fun _ => True) (okp := fun _ => True) ?hr ?hp (fun _ hk => hk) trivial (Below.refl _ _) (Nat.le_refl _) (by simp) ?_; (case hd => rfl); (case hg => rfl); (case hr => first | (go_simp; done) | (go_simp; rfl)); (case hp => exact (Reps.one (show Kd.M Kd.string _ _ _ (⟨#[]⟩ : ByteArray) [.string (⟨#[]⟩ : ByteArray)] from rfl) (Reps.one (show Kd.M Kd.string _ _ _ (⟨#[47, 98]⟩ : ByteArray) [.string (⟨#[47, 98]⟩ : ByteArray)] from rfl) (Reps.one (show Kd.M Kd.string _ _ _ (⟨#[120]⟩ : ByteArray) [.string (⟨#[120]⟩ : ByteArray)] from rfl) (Reps.none _ _))))); intro v218 w11 ho12 hb hg_ hnew_; clear hg_ hnew_; (first | rw [← Ny217.out] at ho12 | (simp only [Int.reduceToNat] at ho12; rw [← Ny217.out] at ho12)); have HO219 := Aside0.mk (Kd.R_lower ho12 (below_size (by repeat (first | (with_reducible first | exact HB.out | apply below_alloc | apply pw_below_drewN | apply below_drew1 | refine below_set ?_ (IsS100.ge HI210.out)) | exact HB.out)))); replace HI210 := Aside0.mk (IsS100.below (by repeat (first | (with_reducible first | exact HI210.out | apply IsS100.alloc | apply IsS100.drewN | apply IsS100.drew | apply IsS100.set_1 | apply IsS100.set_2) | exact HI210.out)) hb); replace HB := Aside0.mk (below_step (by repeat (first | (with_reducible first | exact HB.out | apply below_alloc | apply pw_below_drewN | apply below_drew1 | refine below_set ?_ (IsS100.ge HI210.out)) | exact HB.out)) hb); clear hb ho12; obtain ⟨Ao13, co13, eo13⟩ := Kd.R_slice HO219.out; subst eo13) | ((with_reducible refine gate_callee (f := 60) rfl ?_); refine gl_ 16 Tryd.func60 (spec_l1Str.calls g210 t207 t215 t216 _ _ y217 t220 t221 t222 w _ ?side1 ?side2 (kO HO219) (ko HO219) ?side5 A6.out) ?_; (case side1 => repeat (first | (with_reducible first | exact HI210.out | apply IsS100.alloc | apply IsS100.drewN | apply IsS100.drew | apply IsS100.set_1 | apply IsS100.set_2) | exact HI210.out)); (case side2 => repeat (first | (with_reducible first | exact HB.out | apply below_alloc | apply pw_below_drewN | apply below_drew1 | refine below_set ?_ (IsS100.ge HI210.out)) | exact HB.out)); (case side5 => exact far_slice (IsS100.own_ne HI210.out HO219.out (by decide))); rintro e w14 ⟨rfl, hi, hb, hk⟩; refine ⟨_, rfl, ?_⟩; replace HO219 := Aside0.mk (Kd.R_mono (Kd.R_keep (IsS100.apart (show IsS100 w _ g210 t207 t215 t216 from by repeat (first | (with_reducible first | exact HI210.out | apply IsS100.alloc | apply IsS100.drewN | apply IsS100.drew | apply IsS100.set_1 | apply IsS100.set_2) | exact HI210.out)) (oR HO219) (by decide)) hk (fun _ h => h.2)) (fun _ h => h.1)); replace HI210 := Aside0.mk (hi); replace HB := Aside0.mk (hb); (try clear hk); (try clear hi)))
   go_ret2
   exact ⟨oE, by repeat (first | (with_reducible first | exact HB.out | apply below_alloc | apply pw_below_drewN | apply below_drew1 | refine below_set ?_ (IsS100.ge HI210.out)) | exact HB.out)⟩
  ·rw [if_neg c7] at H
   exact absurd H (by simp)
 ·replace H := bA H
  obtain ⟨⟨t223, t224, t225⟩, A15, H⟩ := H
  try dsimp only at H
  simp only [Option.some.injEq, Prod.mk.injEq] at H
  obtain ⟨rfl, rfl⟩ := H
  go_enter Tryd.func22, Tryd.ntmps22
  go_wp2_with (first | ((with_reducible refine gate_callee (f := 57) rfl ?_); refine gl_ 7 Tryd.func57 (spec_l1New.calls k _ _ l0 t207 t208 t209 w _ ?side1 HR0.out HC0.out A2.out) ?_; (case side1 => repeat (first | (with_reducible first | exact HB.out | apply below_alloc | apply pw_below_drewN | apply below_drew1) | exact HB.out)); rintro e w16 ⟨g210, rfl, hi, hb, hb2⟩; refine ⟨_, rfl, ?_⟩; have HI210 := Aside0.mk (hi); replace HB := Aside0.mk (hb); (try clear hi)) | ((with_reducible refine gate_callee (f := 58) rfl ?_); refine gl_ 9 Tryd.func58 (spec_l2Any.calls k g210 t207 t208 t209 t211 t212 t213 w _ ?side1 ?side2 A3.out) ?_; (case side1 => repeat (first | (with_reducible first | exact HI210.out | apply IsS100.alloc | apply IsS100.drewN | apply IsS100.drew | apply IsS100.set_1 | apply IsS100.set_2) | exact HI210.out)); (case side2 => repeat (first | (with_reducible first | exact HB.out | apply below_alloc | apply pw_below_drewN | apply below_drew1 | refine below_set ?_ (IsS100.ge HI210.out)) | exact HB.out)); rintro e w17 ⟨rfl, hi, hb, hk⟩; refine ⟨_, rfl, ?_⟩; replace HI210 := Aside0.mk (hi); replace HB := Aside0.mk (hb); (try clear hk); (try clear hi)) | ((with_reducible refine gate_callee (f := 59) rfl ?_); refine gl_ 11 Tryd.func59 (spec_l1Once.calls g210 t207 t212 t213 2 false t215 t216 w _ ?side1 ?side2 A4.out) ?_; (case side1 => repeat (first | (with_reducible first | exact HI210.out | apply IsS100.alloc | apply IsS100.drewN | apply IsS100.drew | apply IsS100.set_1 | apply IsS100.set_2) | exact HI210.out)); (case side2 => repeat (first | (with_reducible first | exact HB.out | apply below_alloc | apply pw_below_drewN | apply below_drew1 | refine below_set ?_ (IsS100.ge HI210.out)) | exact HB.out)); rintro e w18 ⟨rfl, hi, hb, hk⟩; refine ⟨_, rfl, ?_⟩; replace HI210 := Aside0.mk (hi); replace HB := Aside0.mk (hb); (try clear hk); (try clear hi)) | ((with_reducible refine gate_callee (f := 58) rfl ?_); refine gl_ 20 Tryd.func58 (spec_l2Any.calls k g210 t207 t215 t216 t223 t224 t225 w _ ?side1 ?side2 A15.out) ?_; (case side1 => repeat (first | (with_reducible first | exact HI210.out | apply IsS100.alloc | apply IsS100.drewN | apply IsS100.drew | apply IsS100.set_1 | apply IsS100.set_2) | exact HI210.out)); (case side2 => repeat (first | (with_reducible first | exact HB.out | apply below_alloc | apply pw_below_drewN | apply below_drew1 | refine below_set ?_ (IsS100.ge HI210.out)) | exact HB.out)); rintro e w19 ⟨rfl, hi, hb, hk⟩; refine ⟨_, rfl, ?_⟩; replace HI210 := Aside0.mk (hi); replace HB := Aside0.mk (hb); (try clear hk); (try clear hi)))
  go_ret2
  exact ⟨oE, by repeat (first | (with_reducible first | exact HB.out | apply below_alloc | apply pw_below_drewN | apply below_drew1 | refine below_set ?_ (IsS100.ge HI210.out)) | exact HB.out)⟩

/-! ### laws_FnBelow: function 5 -/
def laws_FnBelow.f (k : Nat) (l0 : List Int) : Option (Bool) := (laws_big.f l0).bind fun t226 => (if t226 = true then (some true) else ((spec_DrawBelow.f k l0).bind fun bt227 => ((impl_Below.f k bt227.1 bt227.2).bind fun t229 => ((spec_Below.f k bt227.1 bt227.2).bind fun t230 => (if (t229 == t230) = true then (if t229 = true then ((impl_Below.f k bt227.2 bt227.1).bind fun t231 => (if t231 = true then (if bt227.1.toList = bt227.2.toList then (some (decide ((bt227.1.size : Int) ≤ (bt227.2.size : Int)))) else (some false)) else (some (decide ((bt227.1.size : Int) ≤ (bt227.2.size : Int)))))) else (some true)) else (some false))))))
set_option maxHeartbeats 8000000 in
set_option maxRecDepth 100000 in
theorem laws_FnBelow.calls (k : Nat) (A0 : Option Addr) (c0 : Nat) (l0 : List Int) (r : Bool) (w : World) (hr0 : Kd.C (Kd.int .u8) w A0 l0.length l0) (hc0 : l0.length ≤ c0) (h : laws_FnBelow.f k l0 = some r) (hG : GOk w := by exact gk_ oB (by first | (with_reducible assumption) | assumption)) :
  Calls Tryd.prog 5 #[.slice A0 l0.length c0] w fun e w' => e = .returned (.bool r) ∧ Below w.heap.size w w' := by
 have HG := Aside0.mk hG
 clear hG
 have HR0 := Aside0.mk hr0
 have HC0 := Aside0.mk hc0
 clear hr0 hc0
 have HB := Aside0.mk (Below.refl w.heap.size w)
 unfold laws_FnBelow.f at h
 have H := h
 clear h
 replace H := bA H
 obtain ⟨t226, A2, H⟩ := H
 try dsimp only at H
 replace H := itB H
 rcases H with ⟨rfl, H⟩ | ⟨rfl, H⟩
 ·obtain rfl := Option.some.inj H
  go_enter Tryd.func5, Tryd.ntmps5
  go_wp2_with (first | ((with_reducible refine gate_callee (f := 21) rfl ?_); refine gl_ 7 Tryd.func21 (laws_big.calls _ _ l0 true _ (kD HR0) HC0.out A2.out) ?_; rintro e w' ⟨rfl, ⟨nd, rfl⟩⟩; refine ⟨_, rfl, ?_⟩))
  go_ret
  exact ⟨oE, oB⟩
 ·replace H := bA H
  obtain ⟨⟨t227, t228⟩, A4, H⟩ := H
  try dsimp only at H
  replace H := bA H
  obtain ⟨t229, A5, H⟩ := H
  try dsimp only at H
  replace H := bA H
  obtain ⟨t230, A6, H⟩ := H
  try dsimp only at H
  by_cases c7 : (t229 == t230) = true
  ·rw [if_pos c7] at H
   have c7b0 : (t229 == t230) = true := c7
   (try (have c7b1 : decide (t229 = t230) = true := by simpa using c7))
   (try (have c7b2 : (t229 == t230) = true := by simpa using c7))
   clear c7
   replace H := itB H
   rcases H with ⟨rfl, H⟩ | ⟨rfl, H⟩
   ·replace H := bA H
    obtain ⟨t231, A9, H⟩ := H
    try dsimp only at H
    replace H := itB H
    rcases H with ⟨rfl, H⟩ | ⟨rfl, H⟩
    ·by_cases c11 : t227.toList = t228.toList
     ·rw [if_pos c11] at H
      have c11b0 : (t227.toList == t228.toList) = true := beq_iff_eq.mpr c11
      have c11b1 : (t227.toList != t228.toList) = false := bne_eq_false_iff_eq.mpr c11
      clear c11
      obtain rfl := Option.some.inj H
      go_enter Tryd.func5, Tryd.ntmps5
      go_wp2_with (first | ((with_reducible refine gate_callee (f := 21) rfl ?_); refine gl_ 7 Tryd.func21 (laws_big.calls _ _ l0 false _ (kD HR0) HC0.out A2.out) ?_; rintro e w' ⟨rfl, ⟨nd, rfl⟩⟩; refine ⟨_, rfl, ?_⟩) | ((with_reducible refine gate_callee (f := 22) rfl ?_); refine gl_ 10 Tryd.func22 (spec_DrawBelow.calls k _ _ l0 t227 t228 _ (kD HR0) HC0.out A4.out) ?_; rintro e w12 ⟨rfl, hb⟩; refine ⟨_, rfl, ?_⟩; replace HB := Aside0.mk (below_step oB hb)) | ((with_reducible refine gate_callee (f := 15) rfl ?_); refine gl_ 15 Tryd.func15 (impl_Below.calls k t227 t228 true _ A5.out) ?_; rintro e w13 ⟨rfl, hb⟩; refine ⟨_, rfl, ?_⟩; replace HB := Aside0.mk (below_step oB hb)) | ((with_reducible refine gate_callee (f := 14) rfl ?_); refine gl_ 19 Tryd.func14 (spec_Below.calls k t227 t228 t230 _ A6.out) ?_; rintro e w14 ⟨rfl, hb⟩; refine ⟨_, rfl, ?_⟩; replace HB := Aside0.mk (below_step oB hb)) | (go_at_call 15; (with_reducible refine (impl_Below.calls k t228 t227 true _ A9.out).mono ?_); rintro e w15 ⟨rfl, hb⟩; replace HB := Aside0.mk (below_step oB hb)))
      go_ret
      exact ⟨oE, oB⟩
     ·rw [if_neg c11] at H
      have c11b0 : (t227.toList == t228.toList) = false := beq_eq_false_iff_ne.mpr c11
      have c11b1 : (t227.toList != t228.toList) = true := bne_iff_ne.mpr c11
      obtain rfl := Option.some.inj H
      go_enter Tryd.func5, Tryd.ntmps5
      go_wp2_with (first | ((with_reducible refine gate_callee (f := 21) rfl ?_); refine gl_ 7 Tryd.func21 (laws_big.calls _ _ l0 false _ (kD HR0) HC0.out A2.out) ?_; rintro e w' ⟨rfl, ⟨nd, rfl⟩⟩; refine ⟨_, rfl, ?_⟩) | ((with_reducible refine gate_callee (f := 22) rfl ?_); refine gl_ 10 Tryd.func22 (spec_DrawBelow.calls k _ _ l0 t227 t228 _ (kD HR0) HC0.out A4.out) ?_; rintro e w16 ⟨rfl, hb⟩; refine ⟨_, rfl, ?_⟩; replace HB := Aside0.mk (below_step oB hb)) | ((with_reducible refine gate_callee (f := 15) rfl ?_); refine gl_ 15 Tryd.func15 (impl_Below.calls k t227 t228 true _ A5.out) ?_; rintro e w17 ⟨rfl, hb⟩; refine ⟨_, rfl, ?_⟩; replace HB := Aside0.mk (below_step oB hb)) | ((with_reducible refine gate_callee (f := 14) rfl ?_); refine gl_ 19 Tryd.func14 (spec_Below.calls k t227 t228 t230 _ A6.out) ?_; rintro e w18 ⟨rfl, hb⟩; refine ⟨_, rfl, ?_⟩; replace HB := Aside0.mk (below_step oB hb)) | (go_at_call 15; (with_reducible refine (impl_Below.calls k t228 t227 true _ A9.out).mono ?_); rintro e w19 ⟨rfl, hb⟩; replace HB := Aside0.mk (below_step oB hb)))
      go_ret
      exact ⟨oE, oB⟩
    ·obtain rfl := Option.some.inj H
     go_enter Tryd.func5, Tryd.ntmps5
     go_wp2_with (first | ((with_reducible refine gate_callee (f := 21) rfl ?_); refine gl_ 7 Tryd.func21 (laws_big.calls _ _ l0 false _ (kD HR0) HC0.out A2.out) ?_; rintro e w' ⟨rfl, ⟨nd, rfl⟩⟩; refine ⟨_, rfl, ?_⟩) | ((with_reducible refine gate_callee (f := 22) rfl ?_); refine gl_ 10 Tryd.func22 (spec_DrawBelow.calls k _ _ l0 t227 t228 _ (kD HR0) HC0.out A4.out) ?_; rintro e w20 ⟨rfl, hb⟩; refine ⟨_, rfl, ?_⟩; replace HB := Aside0.mk (below_step oB hb)) | ((with_reducible refine gate_callee (f := 15) rfl ?_); refine gl_ 15 Tryd.func15 (impl_Below.calls k t227 t228 true _ A5.out) ?_; rintro e w21 ⟨rfl, hb⟩; refine ⟨_, rfl, ?_⟩; replace HB := Aside0.mk (below_step oB hb)) | ((with_reducible refine gate_callee (f := 14) rfl ?_); refine gl_ 19 Tryd.func14 (spec_Below.calls k t227 t228 t230 _ A6.out) ?_; rintro e w22 ⟨rfl, hb⟩; refine ⟨_, rfl, ?_⟩; replace HB := Aside0.mk (below_step oB hb)) | (go_at_call 15; (with_reducible refine (impl_Below.calls k t228 t227 false _ A9.out).mono ?_); rintro e w23 ⟨rfl, hb⟩; replace HB := Aside0.mk (below_step oB hb)))
     go_ret
     exact ⟨oE, oB⟩
   ·obtain rfl := Option.some.inj H
    go_enter Tryd.func5, Tryd.ntmps5
    go_wp2_with (first | ((with_reducible refine gate_callee (f := 21) rfl ?_); refine gl_ 7 Tryd.func21 (laws_big.calls _ _ l0 false _ (kD HR0) HC0.out A2.out) ?_; rintro e w' ⟨rfl, ⟨nd, rfl⟩⟩; refine ⟨_, rfl, ?_⟩) | ((with_reducible refine gate_callee (f := 22) rfl ?_); refine gl_ 10 Tryd.func22 (spec_DrawBelow.calls k _ _ l0 t227 t228 _ (kD HR0) HC0.out A4.out) ?_; rintro e w24 ⟨rfl, hb⟩; refine ⟨_, rfl, ?_⟩; replace HB := Aside0.mk (below_step oB hb)) | ((with_reducible refine gate_callee (f := 15) rfl ?_); refine gl_ 15 Tryd.func15 (impl_Below.calls k t227 t228 false _ A5.out) ?_; rintro e w25 ⟨rfl, hb⟩; refine ⟨_, rfl, ?_⟩; replace HB := Aside0.mk (below_step oB hb)) | ((with_reducible refine gate_callee (f := 14) rfl ?_); refine gl_ 19 Tryd.func14 (spec_Below.calls k t227 t228 t230 _ A6.out) ?_; rintro e w26 ⟨rfl, hb⟩; refine ⟨_, rfl, ?_⟩; replace HB := Aside0.mk (below_step oB hb)))
    go_ret
    exact ⟨oE, oB⟩
  ·rw [if_neg c7] at H
   have c7b0 : (t229 == t230) = false := by simpa using c7
   (try (have c7b1 : decide (t229 = t230) = false := by simpa using c7))
   (try (have c7b2 : (t229 == t230) = false := by simpa using c7))
   (try (have c7b3 : ¬ (t229 = t230) := by simpa using c7))
   clear c7
   obtain rfl := Option.some.inj H
   go_enter Tryd.func5, Tryd.ntmps5
   go_wp2_with (first | ((with_reducible refine gate_callee (f := 21) rfl ?_); refine gl_ 7 Tryd.func21 (laws_big.calls _ _ l0 false _ (kD HR0) HC0.out A2.out) ?_; rintro e w' ⟨rfl, ⟨nd, rfl⟩⟩; refine ⟨_, rfl, ?_⟩) | ((with_reducible refine gate_callee (f := 22) rfl ?_); refine gl_ 10 Tryd.func22 (spec_DrawBelow.calls k _ _ l0 t227 t228 _ (kD HR0) HC0.out A4.out) ?_; rintro e w27 ⟨rfl, hb⟩; refine ⟨_, rfl, ?_⟩; replace HB := Aside0.mk (below_step oB hb)) | ((with_reducible refine gate_callee (f := 15) rfl ?_); refine gl_ 15 Tryd.func15 (impl_Below.calls k t227 t228 t229 _ A5.out) ?_; rintro e w28 ⟨rfl, hb⟩; refine ⟨_, rfl, ?_⟩; replace HB := Aside0.mk (below_step oB hb)) | ((with_reducible refine gate_callee (f := 14) rfl ?_); refine gl_ 19 Tryd.func14 (spec_Below.calls k t227 t228 t230 _ A6.out) ?_; rintro e w29 ⟨rfl, hb⟩; refine ⟨_, rfl, ?_⟩; replace HB := Aside0.mk (below_step oB hb)))
   go_ret
   exact ⟨oE, oB⟩

/-- THE ONE PURE STATEMENT of laws_FnBelow: yours. -/
def laws_FnBelow.Pure : Prop := ∀ (l0 : List Int), l0.length ≤ maxLen → l0.length * 1 ≤ 140737488351232 → (∀ x ∈ l0, (Lit.int .u8 x).wf = true) → ∃ k, laws_FnBelow.f k l0 = some true
theorem laws_FnBelow.walk (P : laws_FnBelow.Pure) (a0 : Option Addr) (len0 cap0 : Nat) (z0 : List Int) (w : World) (w0 : (a0 = none ∧ len0 = 0 ∧ cap0 = 0 ∧ z0 = []) ∨ ∃ x, a0 = some x ∧ len0 ≤ cap0 ∧ cap0 ≤ maxLen ∧ z0.length = cap0 ∧ (∀ i, i < z0.length → w.cell? (x.add i) = some (.int .u8 (z0.getD i 0))) ∧ ∀ n ∈ z0, (Lit.int .u8 n).wf = true) (y0 : len0 * 1 ≤ 140737488351232) (hG : GOk w) :
  Calls Tryd.prog 5 #[.slice a0 len0 cap0] w fun e w' => e = .returned (.bool true) ∧ Below w.heap.size w w' := by
 obtain ⟨l0, rfl, hr0, hm0, hw0, hc0⟩ := ReadsInt.ofRowC w0
 obtain ⟨k, h⟩ := P l0 hm0 y0 hw0
 refine (laws_FnBelow.calls k _ _ l0 true w (Kd.C_of_reads (d := (0 : Int)) (h1 := fun _ => rfl) hr0) hc0 h hG).mono ?_
 rintro e w' ⟨rfl, hd⟩
 exact ⟨rfl, hd⟩

end Go.Proofs.YtkfcmpalbhmmaaaDoor.P
