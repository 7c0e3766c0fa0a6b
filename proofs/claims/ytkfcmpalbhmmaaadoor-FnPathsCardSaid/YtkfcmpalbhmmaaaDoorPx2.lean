-- By this session's own program (wip/myprint.py) out of the translation; Lean checks it.
import Derived.Test.YtkfcmpalbhmmaaaDoorPx0
import Derived.Test.YtkfcmpalbhmmaaaDoorPx1
namespace Go.Proofs.YtkfcmpalbhmmaaaDoor.P
open Go.RowKit Go.Proofs.YtkfcmpalbhmmaaaDoorW.PrintWords Go.Proofs.YtkfcmpalbhmmaaaDoorW.PrintLast Go.Proofs.YtkfcmpalbhmmaaaDoorW.PrintMore
attribute [local go_sem] max2_int min2_int max_two min_two max_three min_three max_four min_four   -- for this text's walks alone
set_option linter.unusedVariables false
set_option linter.unusedSimpArgs false

/-! ### spec_JoinPath: function 28 -/
def spec_JoinPath.l0 : Nat → List ByteArray → ByteArray → Int → Option (ByteArray)
 | 0, _, _, _ => none
 | k + 1, x0, x3, x4 => if x4 < (x0.length : Int) then (if 0 ≤ x4 then ((spec_NameOk.f k (rdOf ByteArray.empty x0 x4)).bind fun t229 => (if t229 = true then (if (x0.length : Int) > 30 then (some (⟨#[]⟩ : ByteArray)) else (if x3.size + 1 ≤ 9223372036854775807 then (if (x3 ++ (⟨#[47]⟩ : ByteArray)).size + (rdOf ByteArray.empty x0 x4).size ≤ 9223372036854775807 then (spec_JoinPath.l0 k x0 ((x3 ++ (⟨#[47]⟩ : ByteArray)) ++ (rdOf ByteArray.empty x0 x4)) (wrap64 (x4 + 1))) else (none)) else (none))) else (some (⟨#[]⟩ : ByteArray)))) else (none)) else (some x3)
def spec_JoinPath.f (k : Nat) (l0 : List ByteArray) : Option (ByteArray) := if (l0.length : Int) = 0 then (some (⟨#[47]⟩ : ByteArray)) else (spec_JoinPath.l0 k l0 (⟨#[]⟩ : ByteArray) 0)
set_option maxHeartbeats 8000000 in
set_option maxRecDepth 100000 in
theorem spec_JoinPath.calls (k : Nat) (A0 : Option Addr) (c0 : Nat) (l0 : List ByteArray) (r : ByteArray) (w : World) (hr0 : Kd.C Kd.string w A0 l0.length l0) (hc0 : l0.length ≤ c0) (h : spec_JoinPath.f k l0 = some r) :
  Calls Tryd.prog 28 #[.slice A0 l0.length c0] w fun e w' => e = .returned (.string r) ∧ Drawn0 w w' := by
 have HR0 := Aside0.mk hr0
 have HC0 := Aside0.mk hc0
 clear hr0 hc0
 unfold spec_JoinPath.f at h
 have H := h
 clear h
 by_cases c2 : (l0.length : Int) = 0
 ·rw [if_pos c2] at H
  have c2b0 : ((l0.length : Int) == 0) = true := beq_iff_eq.mpr c2
  have c2b1 : ((l0.length : Int) != 0) = false := bne_eq_false_iff_eq.mpr c2
  clear c2
  obtain rfl := Option.some.inj H
  go_enter Tryd.func28, Tryd.ntmps28
  go_wp2
  go_ret
  exact ⟨oS, oD⟩
 ·rw [if_neg c2] at H
  have c2b0 : ((l0.length : Int) == 0) = false := beq_eq_false_iff_ne.mpr c2
  have c2b1 : ((l0.length : Int) != 0) = true := bne_iff_ne.mpr c2
  have c2b2 : ¬ (l0 = []) := fun h_ => c2 (by rw [h_]; rfl)
  have H' := Aside0.mk H
  clear H
  go_enter Tryd.func28, Tryd.ntmps28
  go_wp2
  go_loopg [3, 4] k (fun kq v3 v4 w' => ∃ (x3_1 : ByteArray) (x4_1 : Int), v3 = .string x3_1 ∧ v4 = .int .i64 x4_1 ∧ Aside0 (spec_JoinPath.l0 kq l0 x3_1 x4_1 = some r) ∧ Aside0 (kq ≤ k) ∧ Drawn0 w w')
  case atStart => exact ⟨((⟨#[]⟩ : ByteArray)), (0), oS, oS, H', ⟨Nat.le_refl _⟩, oD⟩
  case round =>
   clear H'
   try clear c2
   obtain ⟨x3_1, x4_1, rfl, rfl, HA, HK1, ⟨m1, rfl⟩⟩ := hrel
   cases gk with
   | zero => exact absurd HA.out (by simp [spec_JoinPath.l0])
   | succ k1 =>
    have H := HA.out
    clear HA
    simp only [spec_JoinPath.l0] at H
    replace H := itD H
    rcases H with ⟨c3b0, H⟩ | ⟨c3b0, H⟩
    ·replace H := itD H
     rcases H with ⟨c4b0, H⟩ | ⟨c4b0, H⟩
     ·replace H := bA H
      obtain ⟨t229, A5, H⟩ := H
      try dsimp only at H
      replace H := itB H
      rcases H with ⟨rfl, H⟩ | ⟨rfl, H⟩
      ·by_cases c7 : (l0.length : Int) > 30
       ·rw [if_pos c7] at H
        have c7b0 : decide (30 < (l0.length : Int)) = true := decide_eq_true c7
        have c7b1 : decide (30 < l0.length) = true := decide_eq_true (by omega)
        clear c7
        obtain rfl := Option.some.inj H
        have p228 : (0 ≤ (x4_1 : Int)) = True := oT
        have q228 : (x4_1 < (l0.length : Int)) = True := oT
        obtain ⟨ad228, e228, hx228_0⟩ := Kd.at_string HR0.out x4_1 oa oa
        cases e228
        go_wp2_with (first | ((with_reducible refine gate_callee (f := 53) rfl ?_); refine gl_ 18 Tryd.func53 (spec_NameOk.calls k1 (rdOf ByteArray.empty l0 x4_1) true _ A5.out) ?_; rintro e w' ⟨rfl, ⟨nd, rfl⟩⟩; refine ⟨_, rfl, ?_⟩))
        go_ret
        exact ⟨oS, oD⟩
       ·rw [if_neg c7] at H
        have c7b0 : decide (30 < (l0.length : Int)) = false := decide_eq_false c7
        have c7b1 : decide (30 < l0.length) = false := decide_eq_false (by omega)
        clear c7
        by_cases c8 : x3_1.size + 1 ≤ 9223372036854775807
        ·rw [if_pos c8] at H
         have c8b0 := eq_true c8
         have c8b1 : decide (x3_1.size + 1 ≤ 9223372036854775807) = true := decide_eq_true c8
         try have c8b2 : (9223372036854775807 < x3_1.size + 1) = False := eq_false (Nat.not_lt.2 c8)
         by_cases c9 : (x3_1 ++ (⟨#[47]⟩ : ByteArray)).size + (rdOf ByteArray.empty l0 x4_1).size ≤ 9223372036854775807
         ·rw [if_pos c9] at H
          have c9b0 := eq_true c9
          have c9b1 : decide ((x3_1 ++ (⟨#[47]⟩ : ByteArray)).size + (rdOf ByteArray.empty l0 x4_1).size ≤ 9223372036854775807) = true := decide_eq_true c9
          try have c9b2 : (9223372036854775807 < (x3_1 ++ (⟨#[47]⟩ : ByteArray)).size + (rdOf ByteArray.empty l0 x4_1).size) = False := eq_false (Nat.not_lt.2 c9)
          have H' := Aside0.mk H
          clear H
          have p228 : (0 ≤ (x4_1 : Int)) = True := oT
          have q228 : (x4_1 < (l0.length : Int)) = True := oT
          obtain ⟨ad228, e228, hx228_0⟩ := Kd.at_string HR0.out x4_1 oa oa
          cases e228
          go_wp2_with (first | ((with_reducible refine gate_callee (f := 53) rfl ?_); refine gl_ 18 Tryd.func53 (spec_NameOk.calls k1 (rdOf ByteArray.empty l0 x4_1) true _ A5.out) ?_; rintro e w' ⟨rfl, ⟨nd, rfl⟩⟩; refine ⟨_, rfl, ?_⟩; have p230 : (0 ≤ (x4_1 : Int)) = True := oT; have q230 : (x4_1 < (l0.length : Int)) = True := oT; obtain ⟨ad230, e230, hx230_0⟩ := Kd.at_string HR0.out x4_1 oa oa; obtain rfl : ad228 = ad230 := (by injection e230)))
          go_roundg k1
          case measure => have := HK1.out; omega
          case rel => exact ⟨((x3_1 ++ (⟨#[47]⟩ : ByteArray)) ++ (rdOf ByteArray.empty l0 x4_1)), (wrap64 (x4_1 + 1)), oS, oS, H', ⟨by have := HK1.out; omega⟩, oD⟩
         ·rw [if_neg c9] at H
          exact absurd H (by simp)
        ·rw [if_neg c8] at H
         exact absurd H (by simp)
      ·obtain rfl := Option.some.inj H
       have p228 : (0 ≤ (x4_1 : Int)) = True := oT
       have q228 : (x4_1 < (l0.length : Int)) = True := oT
       obtain ⟨ad228, e228, hx228_0⟩ := Kd.at_string HR0.out x4_1 oa oa
       cases e228
       go_wp2_with (first | ((with_reducible refine gate_callee (f := 53) rfl ?_); refine gl_ 18 Tryd.func53 (spec_NameOk.calls k1 (rdOf ByteArray.empty l0 x4_1) false _ A5.out) ?_; rintro e w' ⟨rfl, ⟨nd, rfl⟩⟩; refine ⟨_, rfl, ?_⟩))
       go_ret
       exact ⟨oS, oD⟩
     ·cases H
    ·obtain rfl := Option.some.inj H
     go_wp2
     go_ret
     exact ⟨oS, oD⟩

/-! ### laws_sameTexts: function 29 -/
def laws_sameTexts.l0 : Nat → List ByteArray → List ByteArray → Int → Option (Bool)
 | 0, _, _, _ => none
 | k + 1, x0, x1, x5 => if x5 < (x0.length : Int) then (if 0 ≤ x5 then (if x5 < (x1.length : Int) then (if (rdOf ByteArray.empty x0 x5).toList = (rdOf ByteArray.empty x1 x5).toList then (laws_sameTexts.l0 k x0 x1 (wrap64 (x5 + 1))) else (some false)) else (none)) else (none)) else (some true)
def laws_sameTexts.f (k : Nat) (l0 : List ByteArray) (l1 : List ByteArray) : Option (Bool) := if (l0.length : Int) = (l1.length : Int) then (laws_sameTexts.l0 k l0 l1 0) else (some false)
set_option maxHeartbeats 8000000 in
set_option maxRecDepth 100000 in
theorem laws_sameTexts.calls (k : Nat) (A0 : Option Addr) (c0 : Nat) (l0 : List ByteArray) (A1 : Option Addr) (c1 : Nat) (l1 : List ByteArray) (r : Bool) (w : World) (hr0 : Kd.C Kd.string w A0 l0.length l0) (hc0 : l0.length ≤ c0) (hr1 : Kd.C Kd.string w A1 l1.length l1) (hc1 : l1.length ≤ c1) (h : laws_sameTexts.f k l0 l1 = some r) :
  Calls Tryd.prog 29 #[.slice A0 l0.length c0, .slice A1 l1.length c1] w fun e w' => e = .returned (.bool r) ∧ Drawn0 w w' := by
 have HR0 := Aside0.mk hr0
 have HC0 := Aside0.mk hc0
 clear hr0 hc0
 have HR1 := Aside0.mk hr1
 have HC1 := Aside0.mk hc1
 clear hr1 hc1
 unfold laws_sameTexts.f at h
 have H := h
 clear h
 by_cases c3 : (l0.length : Int) = (l1.length : Int)
 ·rw [if_pos c3] at H
  have c3b0 : ((l0.length : Int) == (l1.length : Int)) = true := beq_iff_eq.mpr c3
  have c3b1 : ((l0.length : Int) != (l1.length : Int)) = false := bne_eq_false_iff_eq.mpr c3
  have c3b2 : (l0.length == l1.length) = true := by first | simpa using c3 | (simp at c3 ⊢; omega)
  clear c3
  have H' := Aside0.mk H
  clear H
  go_enter Tryd.func29, Tryd.ntmps29
  go_wp2
  repeat (go_quiet (fail); try go_wp2)
  go_loopg [5] k (fun kq v5 w' => ∃ (x5_1 : Int), v5 = .int .i64 x5_1 ∧ Aside0 (laws_sameTexts.l0 kq l0 l1 x5_1 = some r) ∧ Aside0 (kq ≤ k) ∧ Drawn0 w w')
  case atStart => exact ⟨(0), oS, H', ⟨Nat.le_refl _⟩, oD⟩
  case round =>
   clear H'
   try clear c1
   try clear c3
   obtain ⟨x5_1, rfl, HA, HK1, ⟨m1, rfl⟩⟩ := hrel
   cases gk with
   | zero => exact absurd HA.out (by simp [laws_sameTexts.l0])
   | succ k1 =>
    have H := HA.out
    clear HA
    simp only [laws_sameTexts.l0] at H
    replace H := itD H
    rcases H with ⟨c4b0, H⟩ | ⟨c4b0, H⟩
    ·replace H := itD H
     rcases H with ⟨c5b0, H⟩ | ⟨c5b0, H⟩
     ·replace H := itD H
      rcases H with ⟨c6b0, H⟩ | ⟨c6b0, H⟩
      ·by_cases c7 : (rdOf ByteArray.empty l0 x5_1).toList = (rdOf ByteArray.empty l1 x5_1).toList
       ·rw [if_pos c7] at H
        have c7b0 : ((rdOf ByteArray.empty l0 x5_1).toList == (rdOf ByteArray.empty l1 x5_1).toList) = true := beq_iff_eq.mpr c7
        have c7b1 : ((rdOf ByteArray.empty l0 x5_1).toList != (rdOf ByteArray.empty l1 x5_1).toList) = false := bne_eq_false_iff_eq.mpr c7
        clear c7
        have H' := Aside0.mk H
        clear H
        have p231 : (0 ≤ (x5_1 : Int)) = True := oT
        have q231 : (x5_1 < (l0.length : Int)) = True := oT
        obtain ⟨ad231, e231, hx231_0⟩ := Kd.at_string HR0.out x5_1 oa oa
        cases e231
        have p232 : (0 ≤ (x5_1 : Int)) = True := oT
        have q232 : (x5_1 < (l1.length : Int)) = True := oT
        obtain ⟨ad232, e232, hx232_0⟩ := Kd.at_string HR1.out x5_1 oa oa
        cases e232
        go_wp2
        repeat (go_quiet (fail); try go_wp2)
        go_roundg k1
        case measure => have := HK1.out; omega
        case rel => exact ⟨(wrap64 (x5_1 + 1)), oS, H', ⟨by have := HK1.out; omega⟩, oD⟩
       ·rw [if_neg c7] at H
        have c7b0 : ((rdOf ByteArray.empty l0 x5_1).toList == (rdOf ByteArray.empty l1 x5_1).toList) = false := beq_eq_false_iff_ne.mpr c7
        have c7b1 : ((rdOf ByteArray.empty l0 x5_1).toList != (rdOf ByteArray.empty l1 x5_1).toList) = true := bne_iff_ne.mpr c7
        obtain rfl := Option.some.inj H
        have p231 : (0 ≤ (x5_1 : Int)) = True := oT
        have q231 : (x5_1 < (l0.length : Int)) = True := oT
        obtain ⟨ad231, e231, hx231_0⟩ := Kd.at_string HR0.out x5_1 oa oa
        cases e231
        have p232 : (0 ≤ (x5_1 : Int)) = True := oT
        have q232 : (x5_1 < (l1.length : Int)) = True := oT
        obtain ⟨ad232, e232, hx232_0⟩ := Kd.at_string HR1.out x5_1 oa oa
        cases e232
        go_wp2
        repeat (go_quiet (fail); try go_wp2)
        go_ret
        exact ⟨oS, oD⟩
      ·cases H
     ·cases H
    ·obtain rfl := Option.some.inj H
     go_wp2
     repeat (go_quiet (fail); try go_wp2)
     go_ret
     exact ⟨oS, oD⟩
 ·rw [if_neg c3] at H
  have c3b0 : ((l0.length : Int) == (l1.length : Int)) = false := beq_eq_false_iff_ne.mpr c3
  have c3b1 : ((l0.length : Int) != (l1.length : Int)) = true := bne_iff_ne.mpr c3
  have c3b2 : (l0.length == l1.length) = false := by first | simpa using c3 | (simp at c3 ⊢; omega)
  obtain rfl := Option.some.inj H
  go_enter Tryd.func29, Tryd.ntmps29
  go_wp2
  repeat (go_quiet (fail); try go_wp2)
  go_ret
  exact ⟨oS, oD⟩

/-! ### laws_FnPaths: function 7 -/
def laws_FnPaths.f (k : Nat) (l0 : List Int) : Option (Bool) := (laws_big.f l0).bind fun t233 => (if t233 = true then (some true) else ((spec_DrawJoinPath.f k l0).bind fun t234 => ((impl_JoinPath.f k t234).bind fun t237 => ((impl_SplitPath.f k t237).bind fun bt238 => ((spec_DrawSplitPath.f k l0).bind fun t242 => ((impl_SplitPath.f k t242).bind fun bt243 => ((spec_SplitPath.f k t242).bind fun bt247 => (if (bt243.2 != bt247.2) = true then (some false) else (if bt243.2 = true then ((impl_JoinPath.f k bt243.1).bind fun t251 => (if t251.toList = t242.toList then ((spec_JoinPath.f k t234).bind fun t252 => (if t237.toList = t252.toList then (if t237.toList = ([] : List UInt8) then (some true) else (if bt238.2 = true then ((laws_sameTexts.f k bt238.1 t234).bind fun t253 => (some t253)) else (some false))) else (some false))) else (some false))) else ((spec_JoinPath.f k t234).bind fun t254 => (if t237.toList = t254.toList then (if t237.toList = ([] : List UInt8) then (some true) else (if bt238.2 = true then ((laws_sameTexts.f k bt238.1 t234).bind fun t255 => (some t255)) else (some false))) else (some false))))))))))))
set_option maxHeartbeats 8000000 in
set_option maxRecDepth 100000 in
theorem laws_FnPaths.calls (k : Nat) (A0 : Option Addr) (c0 : Nat) (l0 : List Int) (r : Bool) (w : World) (hr0 : Kd.C (Kd.int .u8) w A0 l0.length l0) (hc0 : l0.length ≤ c0) (h : laws_FnPaths.f k l0 = some r) (hG : GOk w := by exact gk_ oB (by first | (with_reducible assumption) | assumption)) :
  Calls Tryd.prog 7 #[.slice A0 l0.length c0] w fun e w' => e = .returned (.bool r) ∧ Below w.heap.size w w' := by
 have HG := Aside0.mk hG
 clear hG
 have HR0 := Aside0.mk hr0
 have HC0 := Aside0.mk hc0
 clear hr0 hc0
 have HB := Aside0.mk (Below.refl w.heap.size w)
 unfold laws_FnPaths.f at h
 have H := h
 clear h
 replace H := bA H
 obtain ⟨t233, A2, H⟩ := H
 try dsimp only at H
 replace H := itB H
 rcases H with ⟨rfl, H⟩ | ⟨rfl, H⟩
 ·obtain rfl := Option.some.inj H
  go_enter Tryd.func7, Tryd.ntmps7
  go_wp2_with (first | ((with_reducible refine gate_callee (f := 21) rfl ?_); refine gl_ 13 Tryd.func21 (laws_big.calls _ _ l0 true _ (kD HR0) HC0.out A2.out) ?_; rintro e w' ⟨rfl, ⟨nd, rfl⟩⟩; refine ⟨_, rfl, ?_⟩))
  go_ret
  exact ⟨oE, oB⟩
 ·replace H := bA H
  obtain ⟨t234, A4, H⟩ := H
  try dsimp only at H
  replace H := bA H
  obtain ⟨t237, A5, H⟩ := H
  try dsimp only at H
  replace H := bA H
  obtain ⟨⟨t238, t239⟩, A6, H⟩ := H
  try dsimp only at H
  replace H := bA H
  obtain ⟨t242, A7, H⟩ := H
  try dsimp only at H
  replace H := bA H
  obtain ⟨⟨t243, t244⟩, A8, H⟩ := H
  try dsimp only at H
  replace H := bA H
  obtain ⟨⟨t247, t248⟩, A9, H⟩ := H
  try dsimp only at H
  by_cases c10 : (t244 != t248) = true
  ·rw [if_pos c10] at H
   have c10b0 : (t244 != t248) = true := c10
   (try (have c10b1 : decide (t244 = t248) = false := by simpa using c10))
   (try (have c10b2 : (t244 == t248) = false := by simpa using c10))
   (try (have c10b3 : ¬ (t244 = t248) := by simpa using c10))
   clear c10
   obtain rfl := Option.some.inj H
   go_enter Tryd.func7, Tryd.ntmps7
   go_wp2_with (first | ((with_reducible refine gate_callee (f := 21) rfl ?_); refine gl_ 13 Tryd.func21 (laws_big.calls _ _ l0 false _ (kD HR0) HC0.out A2.out) ?_; rintro e w' ⟨rfl, ⟨nd, rfl⟩⟩; refine ⟨_, rfl, ?_⟩) | ((with_reducible refine gate_callee (f := 25) rfl ?_); refine gl_ 15 Tryd.func25 (spec_DrawJoinPath.calls k _ _ l0 t234 _ (kD HR0) HC0.out A4.out) ?_; rintro e w11 ⟨v235, rfl, ho0, hb⟩; refine ⟨_, rfl, ?_⟩; have HO236 := Aside0.mk (Kd.R_lower ho0 (below_size oB)); replace HB := Aside0.mk (below_step oB hb); obtain ⟨Ao12, co12, eo12⟩ := Kd.R_slice HO236.out; subst eo12) | ((with_reducible refine gate_callee (f := 26) rfl ?_); refine gl_ 17 Tryd.func26 (impl_JoinPath.calls k _ _ t234 t237 _ (kO HO236) (ko HO236) A5.out) ?_; rintro e w13 ⟨rfl, hb⟩; refine ⟨_, rfl, ?_⟩; replace HO236 := kr_ HO236 hb; replace HB := Aside0.mk (below_step oB hb)) | ((with_reducible refine gate_callee (f := 17) rfl ?_); refine gl_ 20 Tryd.func17 (impl_SplitPath.calls k t237 t238 t239 _ A6.out) ?_; rintro e w14 ⟨v240, rfl, ho0, hb⟩; refine ⟨_, rfl, ?_⟩; have HO241 := Aside0.mk (Kd.Q_lower (Kd.Q_new' ho0 (kl_ HO236)) (below_size oB)); replace HO236 := Aside0.mk (Kd.R_elder' (oR HO236) (Kd.Q_base ho0) hb); replace HB := Aside0.mk (below_step oB hb)) | ((with_reducible refine gate_callee (f := 27) rfl ?_); refine gl_ 24 Tryd.func27 (spec_DrawSplitPath.calls k _ _ l0 t242 _ (kC HR0) HC0.out A7.out) ?_; rintro e w15 ⟨rfl, hb⟩; refine ⟨_, rfl, ?_⟩; replace HO236 := kr_ HO236 hb; replace HO241 := Aside0.mk (Kd.Q_below (by (with_reducible repeat (first | apply Kd.Q_alloc | apply Kd.Q_drewN | apply Kd.Q_drew)); exact HO241.out) hb); replace HB := Aside0.mk (below_step oB hb)) | ((with_reducible refine gate_callee (f := 17) rfl ?_); refine gl_ 27 Tryd.func17 (impl_SplitPath.calls k t242 t243 t244 _ A8.out) ?_; rintro e w16 ⟨v245, rfl, ho0, hb⟩; refine ⟨_, rfl, ?_⟩; have HO246 := Aside0.mk (Kd.Q_lower (Kd.Q_new' (Kd.Q_new' ho0 (kl_ HO236)) (Kd.Q_lt (by (with_reducible repeat (first | apply Kd.Q_alloc | apply Kd.Q_drewN | apply Kd.Q_drew)); exact HO241.out))) (below_size oB)); replace HO236 := Aside0.mk (Kd.R_elder' (oR HO236) (Kd.Q_base ho0) hb); replace HO241 := Aside0.mk (Kd.Q_elder' (by (with_reducible repeat (first | apply Kd.Q_alloc | apply Kd.Q_drewN | apply Kd.Q_drew)); exact HO241.out) (Kd.Q_base ho0) hb); replace HB := Aside0.mk (below_step oB hb)) | ((with_reducible refine gate_callee (f := 16) rfl ?_); refine gl_ 32 Tryd.func16 (spec_SplitPath.calls k t242 t247 t248 _ A9.out) ?_; rintro e w17 ⟨v249, rfl, ho0, hb⟩; refine ⟨_, rfl, ?_⟩; have HO250 := Aside0.mk (Kd.R_lower (Kd.R_new' (Kd.R_new' (Kd.R_new' ho0 (kl_ HO236)) (Kd.Q_lt (by (with_reducible repeat (first | apply Kd.Q_alloc | apply Kd.Q_drewN | apply Kd.Q_drew)); exact HO241.out))) (Kd.Q_lt (by (with_reducible repeat (first | apply Kd.Q_alloc | apply Kd.Q_drewN | apply Kd.Q_drew)); exact HO246.out))) (below_size oB)); replace HO236 := ke_ HO236 ho0 hb; replace HO241 := Aside0.mk (Kd.Q_elder' (by (with_reducible repeat (first | apply Kd.Q_alloc | apply Kd.Q_drewN | apply Kd.Q_drew)); exact HO241.out) (Kd.R_base ho0) hb); replace HO246 := Aside0.mk (Kd.Q_elder' (by (with_reducible repeat (first | apply Kd.Q_alloc | apply Kd.Q_drewN | apply Kd.Q_drew)); exact HO246.out) (Kd.R_base ho0) hb); replace HB := Aside0.mk (below_step oB hb)))
   go_ret
   exact ⟨oE, oB⟩
  ·rw [if_neg c10] at H
   have c10b0 : (t244 != t248) = false := by simpa using c10
   (try (have c10b1 : decide (t244 = t248) = true := by simpa using c10))
   (try (have c10b2 : (t244 == t248) = true := by simpa using c10))
   clear c10
   replace H := itB H
   rcases H with ⟨rfl, H⟩ | ⟨rfl, H⟩
   ·replace H := bA H
    obtain ⟨t251, A19, H⟩ := H
    try dsimp only at H
    by_cases c20 : t251.toList = t242.toList
    ·rw [if_pos c20] at H
     have c20b0 : (t251.toList == t242.toList) = true := beq_iff_eq.mpr c20
     have c20b1 : (t251.toList != t242.toList) = false := bne_eq_false_iff_eq.mpr c20
     clear c20
     replace H := bA H
     obtain ⟨t252, A21, H⟩ := H
     try dsimp only at H
     by_cases c22 : t237.toList = t252.toList
     ·rw [if_pos c22] at H
      have c22b0 : (t237.toList == t252.toList) = true := beq_iff_eq.mpr c22
      have c22b1 : (t237.toList != t252.toList) = false := bne_eq_false_iff_eq.mpr c22
      clear c22
      by_cases c23 : t237.toList = ([] : List UInt8)
      ·rw [if_pos c23] at H
       have c23b0 : (t237.toList == ([] : List UInt8)) = true := beq_iff_eq.mpr c23
       have c23b1 : (t237.toList != ([] : List UInt8)) = false := bne_eq_false_iff_eq.mpr c23
       clear c23
       obtain rfl := Option.some.inj H
       go_enter Tryd.func7, Tryd.ntmps7
       go_wp2_with (first | ((with_reducible refine gate_callee (f := 21) rfl ?_); refine gl_ 13 Tryd.func21 (laws_big.calls _ _ l0 false _ (kD HR0) HC0.out A2.out) ?_; rintro e w' ⟨rfl, ⟨nd, rfl⟩⟩; refine ⟨_, rfl, ?_⟩) | ((with_reducible refine gate_callee (f := 25) rfl ?_); refine gl_ 15 Tryd.func25 (spec_DrawJoinPath.calls k _ _ l0 t234 _ (kD HR0) HC0.out A4.out) ?_; rintro e w24 ⟨v235, rfl, ho0, hb⟩; refine ⟨_, rfl, ?_⟩; have HO236 := Aside0.mk (Kd.R_lower ho0 (below_size oB)); replace HB := Aside0.mk (below_step oB hb); obtain ⟨Ao25, co25, eo25⟩ := Kd.R_slice HO236.out; subst eo25) | ((with_reducible refine gate_callee (f := 26) rfl ?_); refine gl_ 17 Tryd.func26 (impl_JoinPath.calls k _ _ t234 t237 _ (kO HO236) (ko HO236) A5.out) ?_; rintro e w26 ⟨rfl, hb⟩; refine ⟨_, rfl, ?_⟩; replace HO236 := kr_ HO236 hb; replace HB := Aside0.mk (below_step oB hb)) | ((with_reducible refine gate_callee (f := 17) rfl ?_); refine gl_ 20 Tryd.func17 (impl_SplitPath.calls k t237 t238 t239 _ A6.out) ?_; rintro e w27 ⟨v240, rfl, ho0, hb⟩; refine ⟨_, rfl, ?_⟩; have HO241 := Aside0.mk (Kd.Q_lower (Kd.Q_new' ho0 (kl_ HO236)) (below_size oB)); replace HO236 := Aside0.mk (Kd.R_elder' (oR HO236) (Kd.Q_base ho0) hb); replace HB := Aside0.mk (below_step oB hb)) | ((with_reducible refine gate_callee (f := 27) rfl ?_); refine gl_ 24 Tryd.func27 (spec_DrawSplitPath.calls k _ _ l0 t242 _ (kC HR0) HC0.out A7.out) ?_; rintro e w28 ⟨rfl, hb⟩; refine ⟨_, rfl, ?_⟩; replace HO236 := kr_ HO236 hb; replace HO241 := Aside0.mk (Kd.Q_below (by (with_reducible repeat (first | apply Kd.Q_alloc | apply Kd.Q_drewN | apply Kd.Q_drew)); exact HO241.out) hb); replace HB := Aside0.mk (below_step oB hb)) | ((with_reducible refine gate_callee (f := 17) rfl ?_); refine gl_ 27 Tryd.func17 (impl_SplitPath.calls k t242 t243 true _ A8.out) ?_; rintro e w29 ⟨v245, rfl, ho0, hb⟩; refine ⟨_, rfl, ?_⟩; have HO246 := Aside0.mk (Kd.Q_lower (Kd.Q_new' (Kd.Q_new' ho0 (kl_ HO236)) (Kd.Q_lt (by (with_reducible repeat (first | apply Kd.Q_alloc | apply Kd.Q_drewN | apply Kd.Q_drew)); exact HO241.out))) (below_size oB)); replace HO236 := Aside0.mk (Kd.R_elder' (oR HO236) (Kd.Q_base ho0) hb); replace HO241 := Aside0.mk (Kd.Q_elder' (by (with_reducible repeat (first | apply Kd.Q_alloc | apply Kd.Q_drewN | apply Kd.Q_drew)); exact HO241.out) (Kd.Q_base ho0) hb); replace HB := Aside0.mk (below_step oB hb)) | ((with_reducible refine gate_callee (f := 16) rfl ?_); refine gl_ 32 Tryd.func16 (spec_SplitPath.calls k t242 t247 t248 _ A9.out) ?_; rintro e w30 ⟨v249, rfl, ho0, hb⟩; refine ⟨_, rfl, ?_⟩; have HO250 := Aside0.mk (Kd.R_lower (Kd.R_new' (Kd.R_new' (Kd.R_new' ho0 (kl_ HO236)) (Kd.Q_lt (by (with_reducible repeat (first | apply Kd.Q_alloc | apply Kd.Q_drewN | apply Kd.Q_drew)); exact HO241.out))) (Kd.Q_lt (by (with_reducible repeat (first | apply Kd.Q_alloc | apply Kd.Q_drewN | apply Kd.Q_drew)); exact HO246.out))) (below_size oB)); replace HO236 := ke_ HO236 ho0 hb; replace HO241 := Aside0.mk (Kd.Q_elder' (by (with_reducible repeat (first | apply Kd.Q_alloc | apply Kd.Q_drewN | apply Kd.Q_drew)); exact HO241.out) (Kd.R_base ho0) hb); replace HO246 := Aside0.mk (Kd.Q_elder' (by (with_reducible repeat (first | apply Kd.Q_alloc | apply Kd.Q_drewN | apply Kd.Q_drew)); exact HO246.out) (Kd.R_base ho0) hb); replace HB := Aside0.mk (below_step oB hb); obtain ⟨Ao31, co31, eo31, _⟩ := Kd.Q_slice HO246.out; subst eo31) | (go_at_call 26; (with_reducible refine (impl_JoinPath.calls k _ _ t243 t251 _ ?side1 ?side2 A19.out).mono ?_); (case side1 => repeat (first | exact (Kd.Q_reads' HO246.out).2.2 | (with_reducible refine Kd.C_alloc ?_ _) | (with_reducible refine Kd.C_drewN ?_ _) | (with_reducible refine Kd.C_drew ?_))); (case side2 => exact (Kd.Q_reads' HO246.out).2.1); rintro e w32 ⟨rfl, hb⟩; replace HO236 := kr_ HO236 hb; replace HO241 := Aside0.mk (Kd.Q_below (by (with_reducible repeat (first | apply Kd.Q_alloc | apply Kd.Q_drewN | apply Kd.Q_drew)); exact HO241.out) hb); replace HO246 := Aside0.mk (Kd.Q_below (by (with_reducible repeat (first | apply Kd.Q_alloc | apply Kd.Q_drewN | apply Kd.Q_drew)); exact HO246.out) hb); replace HO250 := kr_ HO250 hb; replace HB := Aside0.mk (below_step oB hb)) | (go_at_call 28; (with_reducible refine (spec_JoinPath.calls k _ _ t234 t252 _ (kO HO236) (ko HO236) A21.out).mono ?_); rintro e w' ⟨rfl, ⟨nd, rfl⟩⟩))
       go_ret
       exact ⟨oE, oB⟩
      ·rw [if_neg c23] at H
       have c23b0 : (t237.toList == ([] : List UInt8)) = false := beq_eq_false_iff_ne.mpr c23
       have c23b1 : (t237.toList != ([] : List UInt8)) = true := bne_iff_ne.mpr c23
       replace H := itB H
       rcases H with ⟨rfl, H⟩ | ⟨rfl, H⟩
       ·replace H := bA H
        obtain ⟨t253, A34, H⟩ := H
        try dsimp only at H
        obtain rfl := Option.some.inj H
        go_enter Tryd.func7, Tryd.ntmps7
        go_wp2_with (first | ((with_reducible refine gate_callee (f := 21) rfl ?_); refine gl_ 13 Tryd.func21 (laws_big.calls _ _ l0 false _ (kD HR0) HC0.out A2.out) ?_; rintro e w' ⟨rfl, ⟨nd, rfl⟩⟩; refine ⟨_, rfl, ?_⟩) | ((with_reducible refine gate_callee (f := 25) rfl ?_); refine gl_ 15 Tryd.func25 (spec_DrawJoinPath.calls k _ _ l0 t234 _ (kD HR0) HC0.out A4.out) ?_; rintro e w35 ⟨v235, rfl, ho0, hb⟩; refine ⟨_, rfl, ?_⟩; have HO236 := Aside0.mk (Kd.R_lower ho0 (below_size oB)); replace HB := Aside0.mk (below_step oB hb); obtain ⟨Ao36, co36, eo36⟩ := Kd.R_slice HO236.out; subst eo36) | ((with_reducible refine gate_callee (f := 26) rfl ?_); refine gl_ 17 Tryd.func26 (impl_JoinPath.calls k _ _ t234 t237 _ (kO HO236) (ko HO236) A5.out) ?_; rintro e w37 ⟨rfl, hb⟩; refine ⟨_, rfl, ?_⟩; replace HO236 := kr_ HO236 hb; replace HB := Aside0.mk (below_step oB hb)) | ((with_reducible refine gate_callee (f := 17) rfl ?_); refine gl_ 20 Tryd.func17 (impl_SplitPath.calls k t237 t238 true _ A6.out) ?_; rintro e w38 ⟨v240, rfl, ho0, hb⟩; refine ⟨_, rfl, ?_⟩; have HO241 := Aside0.mk (Kd.Q_lower (Kd.Q_new' ho0 (kl_ HO236)) (below_size oB)); replace HO236 := Aside0.mk (Kd.R_elder' (oR HO236) (Kd.Q_base ho0) hb); replace HB := Aside0.mk (below_step oB hb)) | ((with_reducible refine gate_callee (f := 27) rfl ?_); refine gl_ 24 Tryd.func27 (spec_DrawSplitPath.calls k _ _ l0 t242 _ (kC HR0) HC0.out A7.out) ?_; rintro e w39 ⟨rfl, hb⟩; refine ⟨_, rfl, ?_⟩; replace HO236 := kr_ HO236 hb; replace HO241 := Aside0.mk (Kd.Q_below (by (with_reducible repeat (first | apply Kd.Q_alloc | apply Kd.Q_drewN | apply Kd.Q_drew)); exact HO241.out) hb); replace HB := Aside0.mk (below_step oB hb)) | ((with_reducible refine gate_callee (f := 17) rfl ?_); refine gl_ 27 Tryd.func17 (impl_SplitPath.calls k t242 t243 true _ A8.out) ?_; rintro e w40 ⟨v245, rfl, ho0, hb⟩; refine ⟨_, rfl, ?_⟩; have HO246 := Aside0.mk (Kd.Q_lower (Kd.Q_new' (Kd.Q_new' ho0 (kl_ HO236)) (Kd.Q_lt (by (with_reducible repeat (first | apply Kd.Q_alloc | apply Kd.Q_drewN | apply Kd.Q_drew)); exact HO241.out))) (below_size oB)); replace HO236 := Aside0.mk (Kd.R_elder' (oR HO236) (Kd.Q_base ho0) hb); replace HO241 := Aside0.mk (Kd.Q_elder' (by (with_reducible repeat (first | apply Kd.Q_alloc | apply Kd.Q_drewN | apply Kd.Q_drew)); exact HO241.out) (Kd.Q_base ho0) hb); replace HB := Aside0.mk (below_step oB hb)) | ((with_reducible refine gate_callee (f := 16) rfl ?_); refine gl_ 32 Tryd.func16 (spec_SplitPath.calls k t242 t247 t248 _ A9.out) ?_; rintro e w41 ⟨v249, rfl, ho0, hb⟩; refine ⟨_, rfl, ?_⟩; have HO250 := Aside0.mk (Kd.R_lower (Kd.R_new' (Kd.R_new' (Kd.R_new' ho0 (kl_ HO236)) (Kd.Q_lt (by (with_reducible repeat (first | apply Kd.Q_alloc | apply Kd.Q_drewN | apply Kd.Q_drew)); exact HO241.out))) (Kd.Q_lt (by (with_reducible repeat (first | apply Kd.Q_alloc | apply Kd.Q_drewN | apply Kd.Q_drew)); exact HO246.out))) (below_size oB)); replace HO236 := ke_ HO236 ho0 hb; replace HO241 := Aside0.mk (Kd.Q_elder' (by (with_reducible repeat (first | apply Kd.Q_alloc | apply Kd.Q_drewN | apply Kd.Q_drew)); exact HO241.out) (Kd.R_base ho0) hb); replace HO246 := Aside0.mk (Kd.Q_elder' (by (with_reducible repeat (first | apply Kd.Q_alloc | apply Kd.Q_drewN | apply Kd.Q_drew)); exact HO246.out) (Kd.R_base ho0) hb); replace HB := Aside0.mk (below_step oB hb); obtain ⟨Ao42, co42, eo42, _⟩ := Kd.Q_slice HO246.out; subst eo42) | (go_at_call 26; (with_reducible refine (impl_JoinPath.calls k _ _ t243 t251 _ ?side1 ?side2 A19.out).mono ?_); (case side1 => repeat (first | exact (Kd.Q_reads' HO246.out).2.2 | (with_reducible refine Kd.C_alloc ?_ _) | (with_reducible refine Kd.C_drewN ?_ _) | (with_reducible refine Kd.C_drew ?_))); (case side2 => exact (Kd.Q_reads' HO246.out).2.1); rintro e w43 ⟨rfl, hb⟩; replace HO236 := kr_ HO236 hb; replace HO241 := Aside0.mk (Kd.Q_below (by (with_reducible repeat (first | apply Kd.Q_alloc | apply Kd.Q_drewN | apply Kd.Q_drew)); exact HO241.out) hb); replace HO246 := Aside0.mk (Kd.Q_below (by (with_reducible repeat (first | apply Kd.Q_alloc | apply Kd.Q_drewN | apply Kd.Q_drew)); exact HO246.out) hb); replace HO250 := kr_ HO250 hb; replace HB := Aside0.mk (below_step oB hb)) | (go_at_call 28; (with_reducible refine (spec_JoinPath.calls k _ _ t234 t252 _ (kO HO236) (ko HO236) A21.out).mono ?_); rintro e w' ⟨rfl, ⟨nd, rfl⟩⟩; obtain ⟨Ao44, co44, eo44, _⟩ := Kd.Q_slice HO241.out; subst eo44) | (go_at_call 29; (with_reducible refine (laws_sameTexts.calls k _ _ t238 _ _ t234 t253 _ ?side1 ?side2 (kO HO236) (ko HO236) A34.out).mono ?_); (case side1 => repeat (first | exact (Kd.Q_reads' HO241.out).2.2 | (with_reducible refine Kd.C_alloc ?_ _) | (with_reducible refine Kd.C_drewN ?_ _) | (with_reducible refine Kd.C_drew ?_))); (case side2 => exact (Kd.Q_reads' HO241.out).2.1); rintro e w' ⟨rfl, ⟨nd, rfl⟩⟩))
        go_ret
        exact ⟨oE, oB⟩
       ·obtain rfl := Option.some.inj H
        go_enter Tryd.func7, Tryd.ntmps7
        go_wp2_with (first | ((with_reducible refine gate_callee (f := 21) rfl ?_); refine gl_ 13 Tryd.func21 (laws_big.calls _ _ l0 false _ (kD HR0) HC0.out A2.out) ?_; rintro e w' ⟨rfl, ⟨nd, rfl⟩⟩; refine ⟨_, rfl, ?_⟩) | ((with_reducible refine gate_callee (f := 25) rfl ?_); refine gl_ 15 Tryd.func25 (spec_DrawJoinPath.calls k _ _ l0 t234 _ (kD HR0) HC0.out A4.out) ?_; rintro e w45 ⟨v235, rfl, ho0, hb⟩; refine ⟨_, rfl, ?_⟩; have HO236 := Aside0.mk (Kd.R_lower ho0 (below_size oB)); replace HB := Aside0.mk (below_step oB hb); obtain ⟨Ao46, co46, eo46⟩ := Kd.R_slice HO236.out; subst eo46) | ((with_reducible refine gate_callee (f := 26) rfl ?_); refine gl_ 17 Tryd.func26 (impl_JoinPath.calls k _ _ t234 t237 _ (kO HO236) (ko HO236) A5.out) ?_; rintro e w47 ⟨rfl, hb⟩; refine ⟨_, rfl, ?_⟩; replace HO236 := kr_ HO236 hb; replace HB := Aside0.mk (below_step oB hb)) | ((with_reducible refine gate_callee (f := 17) rfl ?_); refine gl_ 20 Tryd.func17 (impl_SplitPath.calls k t237 t238 false _ A6.out) ?_; rintro e w48 ⟨v240, rfl, ho0, hb⟩; refine ⟨_, rfl, ?_⟩; have HO241 := Aside0.mk (Kd.Q_lower (Kd.Q_new' ho0 (kl_ HO236)) (below_size oB)); replace HO236 := Aside0.mk (Kd.R_elder' (oR HO236) (Kd.Q_base ho0) hb); replace HB := Aside0.mk (below_step oB hb)) | ((with_reducible refine gate_callee (f := 27) rfl ?_); refine gl_ 24 Tryd.func27 (spec_DrawSplitPath.calls k _ _ l0 t242 _ (kC HR0) HC0.out A7.out) ?_; rintro e w49 ⟨rfl, hb⟩; refine ⟨_, rfl, ?_⟩; replace HO236 := kr_ HO236 hb; replace HO241 := Aside0.mk (Kd.Q_below (by (with_reducible repeat (first | apply Kd.Q_alloc | apply Kd.Q_drewN | apply Kd.Q_drew)); exact HO241.out) hb); replace HB := Aside0.mk (below_step oB hb)) | ((with_reducible refine gate_callee (f := 17) rfl ?_); refine gl_ 27 Tryd.func17 (impl_SplitPath.calls k t242 t243 true _ A8.out) ?_; rintro e w50 ⟨v245, rfl, ho0, hb⟩; refine ⟨_, rfl, ?_⟩; have HO246 := Aside0.mk (Kd.Q_lower (Kd.Q_new' (Kd.Q_new' ho0 (kl_ HO236)) (Kd.Q_lt (by (with_reducible repeat (first | apply Kd.Q_alloc | apply Kd.Q_drewN | apply Kd.Q_drew)); exact HO241.out))) (below_size oB)); replace HO236 := Aside0.mk (Kd.R_elder' (oR HO236) (Kd.Q_base ho0) hb); replace HO241 := Aside0.mk (Kd.Q_elder' (by (with_reducible repeat (first | apply Kd.Q_alloc | apply Kd.Q_drewN | apply Kd.Q_drew)); exact HO241.out) (Kd.Q_base ho0) hb); replace HB := Aside0.mk (below_step oB hb)) | ((with_reducible refine gate_callee (f := 16) rfl ?_); refine gl_ 32 Tryd.func16 (spec_SplitPath.calls k t242 t247 t248 _ A9.out) ?_; rintro e w51 ⟨v249, rfl, ho0, hb⟩; refine ⟨_, rfl, ?_⟩; have HO250 := Aside0.mk (Kd.R_lower (Kd.R_new' (Kd.R_new' (Kd.R_new' ho0 (kl_ HO236)) (Kd.Q_lt (by (with_reducible repeat (first | apply Kd.Q_alloc | apply Kd.Q_drewN | apply Kd.Q_drew)); exact HO241.out))) (Kd.Q_lt (by (with_reducible repeat (first | apply Kd.Q_alloc | apply Kd.Q_drewN | apply Kd.Q_drew)); exact HO246.out))) (below_size oB)); replace HO236 := ke_ HO236 ho0 hb; replace HO241 := Aside0.mk (Kd.Q_elder' (by (with_reducible repeat (first | apply Kd.Q_alloc | apply Kd.Q_drewN | apply Kd.Q_drew)); exact HO241.out) (Kd.R_base ho0) hb); replace HO246 := Aside0.mk (Kd.Q_elder' (by (with_reducible repeat (first | apply Kd.Q_alloc | apply Kd.Q_drewN | apply Kd.Q_drew)); exact HO246.out) (Kd.R_base ho0) hb); replace HB := Aside0.mk (below_step oB hb); obtain ⟨Ao52, co52, eo52, _⟩ := Kd.Q_slice HO246.out; subst eo52) | (go_at_call 26; (with_reducible refine (impl_JoinPath.calls k _ _ t243 t251 _ ?side1 ?side2 A19.out).mono ?_); (case side1 => repeat (first | exact (Kd.Q_reads' HO246.out).2.2 | (with_reducible refine Kd.C_alloc ?_ _) | (with_reducible refine Kd.C_drewN ?_ _) | (with_reducible refine Kd.C_drew ?_))); (case side2 => exact (Kd.Q_reads' HO246.out).2.1); rintro e w53 ⟨rfl, hb⟩; replace HO236 := kr_ HO236 hb; replace HO241 := Aside0.mk (Kd.Q_below (by (with_reducible repeat (first | apply Kd.Q_alloc | apply Kd.Q_drewN | apply Kd.Q_drew)); exact HO241.out) hb); replace HO246 := Aside0.mk (Kd.Q_below (by (with_reducible repeat (first | apply Kd.Q_alloc | apply Kd.Q_drewN | apply Kd.Q_drew)); exact HO246.out) hb); replace HO250 := kr_ HO250 hb; replace HB := Aside0.mk (below_step oB hb)) | (go_at_call 28; (with_reducible refine (spec_JoinPath.calls k _ _ t234 t252 _ (kO HO236) (ko HO236) A21.out).mono ?_); rintro e w' ⟨rfl, ⟨nd, rfl⟩⟩))
        go_ret
        exact ⟨oE, oB⟩
     ·rw [if_neg c22] at H
      have c22b0 : (t237.toList == t252.toList) = false := beq_eq_false_iff_ne.mpr c22
      have c22b1 : (t237.toList != t252.toList) = true := bne_iff_ne.mpr c22
      obtain rfl := Option.some.inj H
      go_enter Tryd.func7, Tryd.ntmps7
      go_wp2_with (first | ((with_reducible refine gate_callee (f := 21) rfl ?_); refine gl_ 13 Tryd.func21 (laws_big.calls _ _ l0 false _ (kD HR0) HC0.out A2.out) ?_; rintro e w' ⟨rfl, ⟨nd, rfl⟩⟩; refine ⟨_, rfl, ?_⟩) | ((with_reducible refine gate_callee (f := 25) rfl ?_); refine gl_ 15 Tryd.func25 (spec_DrawJoinPath.calls k _ _ l0 t234 _ (kD HR0) HC0.out A4.out) ?_; rintro e w54 ⟨v235, rfl, ho0, hb⟩; refine ⟨_, rfl, ?_⟩; have HO236 := Aside0.mk (Kd.R_lower ho0 (below_size oB)); replace HB := Aside0.mk (below_step oB hb); obtain ⟨Ao55, co55, eo55⟩ := Kd.R_slice HO236.out; subst eo55) | ((with_reducible refine gate_callee (f := 26) rfl ?_); refine gl_ 17 Tryd.func26 (impl_JoinPath.calls k _ _ t234 t237 _ (kO HO236) (ko HO236) A5.out) ?_; rintro e w56 ⟨rfl, hb⟩; refine ⟨_, rfl, ?_⟩; replace HO236 := kr_ HO236 hb; replace HB := Aside0.mk (below_step oB hb)) | ((with_reducible refine gate_callee (f := 17) rfl ?_); refine gl_ 20 Tryd.func17 (impl_SplitPath.calls k t237 t238 t239 _ A6.out) ?_; rintro e w57 ⟨v240, rfl, ho0, hb⟩; refine ⟨_, rfl, ?_⟩; have HO241 := Aside0.mk (Kd.Q_lower (Kd.Q_new' ho0 (kl_ HO236)) (below_size oB)); replace HO236 := Aside0.mk (Kd.R_elder' (oR HO236) (Kd.Q_base ho0) hb); replace HB := Aside0.mk (below_step oB hb)) | ((with_reducible refine gate_callee (f := 27) rfl ?_); refine gl_ 24 Tryd.func27 (spec_DrawSplitPath.calls k _ _ l0 t242 _ (kC HR0) HC0.out A7.out) ?_; rintro e w58 ⟨rfl, hb⟩; refine ⟨_, rfl, ?_⟩; replace HO236 := kr_ HO236 hb; replace HO241 := Aside0.mk (Kd.Q_below (by (with_reducible repeat (first | apply Kd.Q_alloc | apply Kd.Q_drewN | apply Kd.Q_drew)); exact HO241.out) hb); replace HB := Aside0.mk (below_step oB hb)) | ((with_reducible refine gate_callee (f := 17) rfl ?_); refine gl_ 27 Tryd.func17 (impl_SplitPath.calls k t242 t243 true _ A8.out) ?_; rintro e w59 ⟨v245, rfl, ho0, hb⟩; refine ⟨_, rfl, ?_⟩; have HO246 := Aside0.mk (Kd.Q_lower (Kd.Q_new' (Kd.Q_new' ho0 (kl_ HO236)) (Kd.Q_lt (by (with_reducible repeat (first | apply Kd.Q_alloc | apply Kd.Q_drewN | apply Kd.Q_drew)); exact HO241.out))) (below_size oB)); replace HO236 := Aside0.mk (Kd.R_elder' (oR HO236) (Kd.Q_base ho0) hb); replace HO241 := Aside0.mk (Kd.Q_elder' (by (with_reducible repeat (first | apply Kd.Q_alloc | apply Kd.Q_drewN | apply Kd.Q_drew)); exact HO241.out) (Kd.Q_base ho0) hb); replace HB := Aside0.mk (below_step oB hb)) | ((with_reducible refine gate_callee (f := 16) rfl ?_); refine gl_ 32 Tryd.func16 (spec_SplitPath.calls k t242 t247 t248 _ A9.out) ?_; rintro e w60 ⟨v249, rfl, ho0, hb⟩; refine ⟨_, rfl, ?_⟩; have HO250 := Aside0.mk (Kd.R_lower (Kd.R_new' (Kd.R_new' (Kd.R_new' ho0 (kl_ HO236)) (Kd.Q_lt (by (with_reducible repeat (first | apply Kd.Q_alloc | apply Kd.Q_drewN | apply Kd.Q_drew)); exact HO241.out))) (Kd.Q_lt (by (with_reducible repeat (first | apply Kd.Q_alloc | apply Kd.Q_drewN | apply Kd.Q_drew)); exact HO246.out))) (below_size oB)); replace HO236 := ke_ HO236 ho0 hb; replace HO241 := Aside0.mk (Kd.Q_elder' (by (with_reducible repeat (first | apply Kd.Q_alloc | apply Kd.Q_drewN | apply Kd.Q_drew)); exact HO241.out) (Kd.R_base ho0) hb); replace HO246 := Aside0.mk (Kd.Q_elder' (by (with_reducible repeat (first | apply Kd.Q_alloc | apply Kd.Q_drewN | apply Kd.Q_drew)); exact HO246.out) (Kd.R_base ho0) hb); replace HB := Aside0.mk (below_step oB hb); obtain ⟨Ao61, co61, eo61, _⟩ := Kd.Q_slice HO246.out; subst eo61) | (go_at_call 26; (with_reducible refine (impl_JoinPath.calls k _ _ t243 t251 _ ?side1 ?side2 A19.out).mono ?_); (case side1 => repeat (first | exact (Kd.Q_reads' HO246.out).2.2 | (with_reducible refine Kd.C_alloc ?_ _) | (with_reducible refine Kd.C_drewN ?_ _) | (with_reducible refine Kd.C_drew ?_))); (case side2 => exact (Kd.Q_reads' HO246.out).2.1); rintro e w62 ⟨rfl, hb⟩; replace HO236 := kr_ HO236 hb; replace HO241 := Aside0.mk (Kd.Q_below (by (with_reducible repeat (first | apply Kd.Q_alloc | apply Kd.Q_drewN | apply Kd.Q_drew)); exact HO241.out) hb); replace HO246 := Aside0.mk (Kd.Q_below (by (with_reducible repeat (first | apply Kd.Q_alloc | apply Kd.Q_drewN | apply Kd.Q_drew)); exact HO246.out) hb); replace HO250 := kr_ HO250 hb; replace HB := Aside0.mk (below_step oB hb)) | (go_at_call 28; (with_reducible refine (spec_JoinPath.calls k _ _ t234 t252 _ (kO HO236) (ko HO236) A21.out).mono ?_); rintro e w' ⟨rfl, ⟨nd, rfl⟩⟩))
      go_ret
      exact ⟨oE, oB⟩
    ·rw [if_neg c20] at H
     have c20b0 : (t251.toList == t242.toList) = false := beq_eq_false_iff_ne.mpr c20
     have c20b1 : (t251.toList != t242.toList) = true := bne_iff_ne.mpr c20
     obtain rfl := Option.some.inj H
     go_enter Tryd.func7, Tryd.ntmps7
     go_wp2_with (first | ((with_reducible refine gate_callee (f := 21) rfl ?_); refine gl_ 13 Tryd.func21 (laws_big.calls _ _ l0 false _ (kD HR0) HC0.out A2.out) ?_; rintro e w' ⟨rfl, ⟨nd, rfl⟩⟩; refine ⟨_, rfl, ?_⟩) | ((with_reducible refine gate_callee (f := 25) rfl ?_); refine gl_ 15 Tryd.func25 (spec_DrawJoinPath.calls k _ _ l0 t234 _ (kD HR0) HC0.out A4.out) ?_; rintro e w63 ⟨v235, rfl, ho0, hb⟩; refine ⟨_, rfl, ?_⟩; have HO236 := Aside0.mk (Kd.R_lower ho0 (below_size oB)); replace HB := Aside0.mk (below_step oB hb); obtain ⟨Ao64, co64, eo64⟩ := Kd.R_slice HO236.out; subst eo64) | ((with_reducible refine gate_callee (f := 26) rfl ?_); refine gl_ 17 Tryd.func26 (impl_JoinPath.calls k _ _ t234 t237 _ (kO HO236) (ko HO236) A5.out) ?_; rintro e w65 ⟨rfl, hb⟩; refine ⟨_, rfl, ?_⟩; replace HO236 := kr_ HO236 hb; replace HB := Aside0.mk (below_step oB hb)) | ((with_reducible refine gate_callee (f := 17) rfl ?_); refine gl_ 20 Tryd.func17 (impl_SplitPath.calls k t237 t238 t239 _ A6.out) ?_; rintro e w66 ⟨v240, rfl, ho0, hb⟩; refine ⟨_, rfl, ?_⟩; have HO241 := Aside0.mk (Kd.Q_lower (Kd.Q_new' ho0 (kl_ HO236)) (below_size oB)); replace HO236 := Aside0.mk (Kd.R_elder' (oR HO236) (Kd.Q_base ho0) hb); replace HB := Aside0.mk (below_step oB hb)) | ((with_reducible refine gate_callee (f := 27) rfl ?_); refine gl_ 24 Tryd.func27 (spec_DrawSplitPath.calls k _ _ l0 t242 _ (kC HR0) HC0.out A7.out) ?_; rintro e w67 ⟨rfl, hb⟩; refine ⟨_, rfl, ?_⟩; replace HO236 := kr_ HO236 hb; replace HO241 := Aside0.mk (Kd.Q_below (by (with_reducible repeat (first | apply Kd.Q_alloc | apply Kd.Q_drewN | apply Kd.Q_drew)); exact HO241.out) hb); replace HB := Aside0.mk (below_step oB hb)) | ((with_reducible refine gate_callee (f := 17) rfl ?_); refine gl_ 27 Tryd.func17 (impl_SplitPath.calls k t242 t243 true _ A8.out) ?_; rintro e w68 ⟨v245, rfl, ho0, hb⟩; refine ⟨_, rfl, ?_⟩; have HO246 := Aside0.mk (Kd.Q_lower (Kd.Q_new' (Kd.Q_new' ho0 (kl_ HO236)) (Kd.Q_lt (by (with_reducible repeat (first | apply Kd.Q_alloc | apply Kd.Q_drewN | apply Kd.Q_drew)); exact HO241.out))) (below_size oB)); replace HO236 := Aside0.mk (Kd.R_elder' (oR HO236) (Kd.Q_base ho0) hb); replace HO241 := Aside0.mk (Kd.Q_elder' (by (with_reducible repeat (first | apply Kd.Q_alloc | apply Kd.Q_drewN | apply Kd.Q_drew)); exact HO241.out) (Kd.Q_base ho0) hb); replace HB := Aside0.mk (below_step oB hb)) | ((with_reducible refine gate_callee (f := 16) rfl ?_); refine gl_ 32 Tryd.func16 (spec_SplitPath.calls k t242 t247 t248 _ A9.out) ?_; rintro e w69 ⟨v249, rfl, ho0, hb⟩; refine ⟨_, rfl, ?_⟩; have HO250 := Aside0.mk (Kd.R_lower (Kd.R_new' (Kd.R_new' (Kd.R_new' ho0 (kl_ HO236)) (Kd.Q_lt (by (with_reducible repeat (first | apply Kd.Q_alloc | apply Kd.Q_drewN | apply Kd.Q_drew)); exact HO241.out))) (Kd.Q_lt (by (with_reducible repeat (first | apply Kd.Q_alloc | apply Kd.Q_drewN | apply Kd.Q_drew)); exact HO246.out))) (below_size oB)); replace HO236 := ke_ HO236 ho0 hb; replace HO241 := Aside0.mk (Kd.Q_elder' (by (with_reducible repeat (first | apply Kd.Q_alloc | apply Kd.Q_drewN | apply Kd.Q_drew)); exact HO241.out) (Kd.R_base ho0) hb); replace HO246 := Aside0.mk (Kd.Q_elder' (by (with_reducible repeat (first | apply Kd.Q_alloc | apply Kd.Q_drewN | apply Kd.Q_drew)); exact HO246.out) (Kd.R_base ho0) hb); replace HB := Aside0.mk (below_step oB hb); obtain ⟨Ao70, co70, eo70, _⟩ := Kd.Q_slice HO246.out; subst eo70) | (go_at_call 26; (with_reducible refine (impl_JoinPath.calls k _ _ t243 t251 _ ?side1 ?side2 A19.out).mono ?_); (case side1 => repeat (first | exact (Kd.Q_reads' HO246.out).2.2 | (with_reducible refine Kd.C_alloc ?_ _) | (with_reducible refine Kd.C_drewN ?_ _) | (with_reducible refine Kd.C_drew ?_))); (case side2 => exact (Kd.Q_reads' HO246.out).2.1); rintro e w71 ⟨rfl, hb⟩; replace HO236 := kr_ HO236 hb; replace HO241 := Aside0.mk (Kd.Q_below (by (with_reducible repeat (first | apply Kd.Q_alloc | apply Kd.Q_drewN | apply Kd.Q_drew)); exact HO241.out) hb); replace HO246 := Aside0.mk (Kd.Q_below (by (with_reducible repeat (first | apply Kd.Q_alloc | apply Kd.Q_drewN | apply Kd.Q_drew)); exact HO246.out) hb); replace HO250 := kr_ HO250 hb; replace HB := Aside0.mk (below_step oB hb)))
     go_ret
     exact ⟨oE, oB⟩
   ·replace H := bA H
    obtain ⟨t254, A72, H⟩ := H
    try dsimp only at H
    by_cases c73 : t237.toList = t254.toList
    ·rw [if_pos c73] at H
     have c73b0 : (t237.toList == t254.toList) = true := beq_iff_eq.mpr c73
     have c73b1 : (t237.toList != t254.toList) = false := bne_eq_false_iff_eq.mpr c73
     clear c73
     by_cases c74 : t237.toList = ([] : List UInt8)
     ·rw [if_pos c74] at H
      have c74b0 : (t237.toList == ([] : List UInt8)) = true := beq_iff_eq.mpr c74
      have c74b1 : (t237.toList != ([] : List UInt8)) = false := bne_eq_false_iff_eq.mpr c74
      clear c74
      obtain rfl := Option.some.inj H
      go_enter Tryd.func7, Tryd.ntmps7
      go_wp2_with (first | ((with_reducible refine gate_callee (f := 21) rfl ?_); refine gl_ 13 Tryd.func21 (laws_big.calls _ _ l0 false _ (kD HR0) HC0.out A2.out) ?_; rintro e w' ⟨rfl, ⟨nd, rfl⟩⟩; refine ⟨_, rfl, ?_⟩) | ((with_reducible refine gate_callee (f := 25) rfl ?_); refine gl_ 15 Tryd.func25 (spec_DrawJoinPath.calls k _ _ l0 t234 _ (kD HR0) HC0.out A4.out) ?_; rintro e w75 ⟨v235, rfl, ho0, hb⟩; refine ⟨_, rfl, ?_⟩; have HO236 := Aside0.mk (Kd.R_lower ho0 (below_size oB)); replace HB := Aside0.mk (below_step oB hb); obtain ⟨Ao76, co76, eo76⟩ := Kd.R_slice HO236.out; subst eo76) | ((with_reducible refine gate_callee (f := 26) rfl ?_); refine gl_ 17 Tryd.func26 (impl_JoinPath.calls k _ _ t234 t237 _ (kO HO236) (ko HO236) A5.out) ?_; rintro e w77 ⟨rfl, hb⟩; refine ⟨_, rfl, ?_⟩; replace HO236 := kr_ HO236 hb; replace HB := Aside0.mk (below_step oB hb)) | ((with_reducible refine gate_callee (f := 17) rfl ?_); refine gl_ 20 Tryd.func17 (impl_SplitPath.calls k t237 t238 t239 _ A6.out) ?_; rintro e w78 ⟨v240, rfl, ho0, hb⟩; refine ⟨_, rfl, ?_⟩; have HO241 := Aside0.mk (Kd.Q_lower (Kd.Q_new' ho0 (kl_ HO236)) (below_size oB)); replace HO236 := Aside0.mk (Kd.R_elder' (oR HO236) (Kd.Q_base ho0) hb); replace HB := Aside0.mk (below_step oB hb)) | ((with_reducible refine gate_callee (f := 27) rfl ?_); refine gl_ 24 Tryd.func27 (spec_DrawSplitPath.calls k _ _ l0 t242 _ (kC HR0) HC0.out A7.out) ?_; rintro e w79 ⟨rfl, hb⟩; refine ⟨_, rfl, ?_⟩; replace HO236 := kr_ HO236 hb; replace HO241 := Aside0.mk (Kd.Q_below (by (with_reducible repeat (first | apply Kd.Q_alloc | apply Kd.Q_drewN | apply Kd.Q_drew)); exact HO241.out) hb); replace HB := Aside0.mk (below_step oB hb)) | ((with_reducible refine gate_callee (f := 17) rfl ?_); refine gl_ 27 Tryd.func17 (impl_SplitPath.calls k t242 t243 false _ A8.out) ?_; rintro e w80 ⟨v245, rfl, ho0, hb⟩; refine ⟨_, rfl, ?_⟩; have HO246 := Aside0.mk (Kd.Q_lower (Kd.Q_new' (Kd.Q_new' ho0 (kl_ HO236)) (Kd.Q_lt (by (with_reducible repeat (first | apply Kd.Q_alloc | apply Kd.Q_drewN | apply Kd.Q_drew)); exact HO241.out))) (below_size oB)); replace HO236 := Aside0.mk (Kd.R_elder' (oR HO236) (Kd.Q_base ho0) hb); replace HO241 := Aside0.mk (Kd.Q_elder' (by (with_reducible repeat (first | apply Kd.Q_alloc | apply Kd.Q_drewN | apply Kd.Q_drew)); exact HO241.out) (Kd.Q_base ho0) hb); replace HB := Aside0.mk (below_step oB hb)) | ((with_reducible refine gate_callee (f := 16) rfl ?_); refine gl_ 32 Tryd.func16 (spec_SplitPath.calls k t242 t247 t248 _ A9.out) ?_; rintro e w81 ⟨v249, rfl, ho0, hb⟩; refine ⟨_, rfl, ?_⟩; have HO250 := Aside0.mk (Kd.R_lower (Kd.R_new' (Kd.R_new' (Kd.R_new' ho0 (kl_ HO236)) (Kd.Q_lt (by (with_reducible repeat (first | apply Kd.Q_alloc | apply Kd.Q_drewN | apply Kd.Q_drew)); exact HO241.out))) (Kd.Q_lt (by (with_reducible repeat (first | apply Kd.Q_alloc | apply Kd.Q_drewN | apply Kd.Q_drew)); exact HO246.out))) (below_size oB)); replace HO236 := ke_ HO236 ho0 hb; replace HO241 := Aside0.mk (Kd.Q_elder' (by (with_reducible repeat (first | apply Kd.Q_alloc | apply Kd.Q_drewN | apply Kd.Q_drew)); exact HO241.out) (Kd.R_base ho0) hb); replace HO246 := Aside0.mk (Kd.Q_elder' (by (with_reducible repeat (first | apply Kd.Q_alloc | apply Kd.Q_drewN | apply Kd.Q_drew)); exact HO246.out) (Kd.R_base ho0) hb); replace HB := Aside0.mk (below_step oB hb)) | (go_at_call 28; (with_reducible refine (spec_JoinPath.calls k _ _ t234 t254 _ (kO HO236) (ko HO236) A72.out).mono ?_); rintro e w' ⟨rfl, ⟨nd, rfl⟩⟩))
      go_ret
      exact ⟨oE, oB⟩
     ·rw [if_neg c74] at H
      have c74b0 : (t237.toList == ([] : List UInt8)) = false := beq_eq_false_iff_ne.mpr c74
      have c74b1 : (t237.toList != ([] : List UInt8)) = true := bne_iff_ne.mpr c74
      replace H := itB H
      rcases H with ⟨rfl, H⟩ | ⟨rfl, H⟩
      ·replace H := bA H
       obtain ⟨t255, A83, H⟩ := H
       try dsimp only at H
       obtain rfl := Option.some.inj H
       go_enter Tryd.func7, Tryd.ntmps7
       go_wp2_with (first | ((with_reducible refine gate_callee (f := 21) rfl ?_); refine gl_ 13 Tryd.func21 (laws_big.calls _ _ l0 false _ (kD HR0) HC0.out A2.out) ?_; rintro e w' ⟨rfl, ⟨nd, rfl⟩⟩; refine ⟨_, rfl, ?_⟩) | ((with_reducible refine gate_callee (f := 25) rfl ?_); refine gl_ 15 Tryd.func25 (spec_DrawJoinPath.calls k _ _ l0 t234 _ (kD HR0) HC0.out A4.out) ?_; rintro e w84 ⟨v235, rfl, ho0, hb⟩; refine ⟨_, rfl, ?_⟩; have HO236 := Aside0.mk (Kd.R_lower ho0 (below_size oB)); replace HB := Aside0.mk (below_step oB hb); obtain ⟨Ao85, co85, eo85⟩ := Kd.R_slice HO236.out; subst eo85) | ((with_reducible refine gate_callee (f := 26) rfl ?_); refine gl_ 17 Tryd.func26 (impl_JoinPath.calls k _ _ t234 t237 _ (kO HO236) (ko HO236) A5.out) ?_; rintro e w86 ⟨rfl, hb⟩; refine ⟨_, rfl, ?_⟩; replace HO236 := kr_ HO236 hb; replace HB := Aside0.mk (below_step oB hb)) | ((with_reducible refine gate_callee (f := 17) rfl ?_); refine gl_ 20 Tryd.func17 (impl_SplitPath.calls k t237 t238 true _ A6.out) ?_; rintro e w87 ⟨v240, rfl, ho0, hb⟩; refine ⟨_, rfl, ?_⟩; have HO241 := Aside0.mk (Kd.Q_lower (Kd.Q_new' ho0 (kl_ HO236)) (below_size oB)); replace HO236 := Aside0.mk (Kd.R_elder' (oR HO236) (Kd.Q_base ho0) hb); replace HB := Aside0.mk (below_step oB hb)) | ((with_reducible refine gate_callee (f := 27) rfl ?_); refine gl_ 24 Tryd.func27 (spec_DrawSplitPath.calls k _ _ l0 t242 _ (kC HR0) HC0.out A7.out) ?_; rintro e w88 ⟨rfl, hb⟩; refine ⟨_, rfl, ?_⟩; replace HO236 := kr_ HO236 hb; replace HO241 := Aside0.mk (Kd.Q_below (by (with_reducible repeat (first | apply Kd.Q_alloc | apply Kd.Q_drewN | apply Kd.Q_drew)); exact HO241.out) hb); replace HB := Aside0.mk (below_step oB hb)) | ((with_reducible refine gate_callee (f := 17) rfl ?_); refine gl_ 27 Tryd.func17 (impl_SplitPath.calls k t242 t243 false _ A8.out) ?_; rintro e w89 ⟨v245, rfl, ho0, hb⟩; refine ⟨_, rfl, ?_⟩; have HO246 := Aside0.mk (Kd.Q_lower (Kd.Q_new' (Kd.Q_new' ho0 (kl_ HO236)) (Kd.Q_lt (by (with_reducible repeat (first | apply Kd.Q_alloc | apply Kd.Q_drewN | apply Kd.Q_drew)); exact HO241.out))) (below_size oB)); replace HO236 := Aside0.mk (Kd.R_elder' (oR HO236) (Kd.Q_base ho0) hb); replace HO241 := Aside0.mk (Kd.Q_elder' (by (with_reducible repeat (first | apply Kd.Q_alloc | apply Kd.Q_drewN | apply Kd.Q_drew)); exact HO241.out) (Kd.Q_base ho0) hb); replace HB := Aside0.mk (below_step oB hb)) | ((with_reducible refine gate_callee (f := 16) rfl ?_); refine gl_ 32 Tryd.func16 (spec_SplitPath.calls k t242 t247 t248 _ A9.out) ?_; rintro e w90 ⟨v249, rfl, ho0, hb⟩; refine ⟨_, rfl, ?_⟩; have HO250 := Aside0.mk (Kd.R_lower (Kd.R_new' (Kd.R_new' (Kd.R_new' ho0 (kl_ HO236)) (Kd.Q_lt (by (with_reducible repeat (first | apply Kd.Q_alloc | apply Kd.Q_drewN | apply Kd.Q_drew)); exact HO241.out))) (Kd.Q_lt (by (with_reducible repeat (first | apply Kd.Q_alloc | apply Kd.Q_drewN | apply Kd.Q_drew)); exact HO246.out))) (below_size oB)); replace HO236 := ke_ HO236 ho0 hb; replace HO241 := Aside0.mk (Kd.Q_elder' (by (with_reducible repeat (first | apply Kd.Q_alloc | apply Kd.Q_drewN | apply Kd.Q_drew)); exact HO241.out) (Kd.R_base ho0) hb); replace HO246 := Aside0.mk (Kd.Q_elder' (by (with_reducible repeat (first | apply Kd.Q_alloc | apply Kd.Q_drewN | apply Kd.Q_drew)); exact HO246.out) (Kd.R_base ho0) hb); replace HB := Aside0.mk (below_step oB hb)) | (go_at_call 28; (with_reducible refine (spec_JoinPath.calls k _ _ t234 t254 _ (kO HO236) (ko HO236) A72.out).mono ?_); rintro e w' ⟨rfl, ⟨nd, rfl⟩⟩; obtain ⟨Ao91, co91, eo91, _⟩ := Kd.Q_slice HO241.out; subst eo91) | (go_at_call 29; (with_reducible refine (laws_sameTexts.calls k _ _ t238 _ _ t234 t255 _ ?side1 ?side2 (kO HO236) (ko HO236) A83.out).mono ?_); (case side1 => repeat (first | exact (Kd.Q_reads' HO241.out).2.2 | (with_reducible refine Kd.C_alloc ?_ _) | (with_reducible refine Kd.C_drewN ?_ _) | (with_reducible refine Kd.C_drew ?_))); (case side2 => exact (Kd.Q_reads' HO241.out).2.1); rintro e w' ⟨rfl, ⟨nd, rfl⟩⟩))
       go_ret
       exact ⟨oE, oB⟩
      ·obtain rfl := Option.some.inj H
       go_enter Tryd.func7, Tryd.ntmps7
       go_wp2_with (first | ((with_reducible refine gate_callee (f := 21) rfl ?_); refine gl_ 13 Tryd.func21 (laws_big.calls _ _ l0 false _ (kD HR0) HC0.out A2.out) ?_; rintro e w' ⟨rfl, ⟨nd, rfl⟩⟩; refine ⟨_, rfl, ?_⟩) | ((with_reducible refine gate_callee (f := 25) rfl ?_); refine gl_ 15 Tryd.func25 (spec_DrawJoinPath.calls k _ _ l0 t234 _ (kD HR0) HC0.out A4.out) ?_; rintro e w92 ⟨v235, rfl, ho0, hb⟩; refine ⟨_, rfl, ?_⟩; have HO236 := Aside0.mk (Kd.R_lower ho0 (below_size oB)); replace HB := Aside0.mk (below_step oB hb); obtain ⟨Ao93, co93, eo93⟩ := Kd.R_slice HO236.out; subst eo93) | ((with_reducible refine gate_callee (f := 26) rfl ?_); refine gl_ 17 Tryd.func26 (impl_JoinPath.calls k _ _ t234 t237 _ (kO HO236) (ko HO236) A5.out) ?_; rintro e w94 ⟨rfl, hb⟩; refine ⟨_, rfl, ?_⟩; replace HO236 := kr_ HO236 hb; replace HB := Aside0.mk (below_step oB hb)) | ((with_reducible refine gate_callee (f := 17) rfl ?_); refine gl_ 20 Tryd.func17 (impl_SplitPath.calls k t237 t238 false _ A6.out) ?_; rintro e w95 ⟨v240, rfl, ho0, hb⟩; refine ⟨_, rfl, ?_⟩; have HO241 := Aside0.mk (Kd.Q_lower (Kd.Q_new' ho0 (kl_ HO236)) (below_size oB)); replace HO236 := Aside0.mk (Kd.R_elder' (oR HO236) (Kd.Q_base ho0) hb); replace HB := Aside0.mk (below_step oB hb)) | ((with_reducible refine gate_callee (f := 27) rfl ?_); refine gl_ 24 Tryd.func27 (spec_DrawSplitPath.calls k _ _ l0 t242 _ (kC HR0) HC0.out A7.out) ?_; rintro e w96 ⟨rfl, hb⟩; refine ⟨_, rfl, ?_⟩; replace HO236 := kr_ HO236 hb; replace HO241 := Aside0.mk (Kd.Q_below (by (with_reducible repeat (first | apply Kd.Q_alloc | apply Kd.Q_drewN | apply Kd.Q_drew)); exact HO241.out) hb); replace HB := Aside0.mk (below_step oB hb)) | ((with_reducible refine gate_callee (f := 17) rfl ?_); refine gl_ 27 Tryd.func17 (impl_SplitPath.calls k t242 t243 false _ A8.out) ?_; rintro e w97 ⟨v245, rfl, ho0, hb⟩; refine ⟨_, rfl, ?_⟩; have HO246 := Aside0.mk (Kd.Q_lower (Kd.Q_new' (Kd.Q_new' ho0 (kl_ HO236)) (Kd.Q_lt (by (with_reducible repeat (first | apply Kd.Q_alloc | apply Kd.Q_drewN | apply Kd.Q_drew)); exact HO241.out))) (below_size oB)); replace HO236 := Aside0.mk (Kd.R_elder' (oR HO236) (Kd.Q_base ho0) hb); replace HO241 := Aside0.mk (Kd.Q_elder' (by (with_reducible repeat (first | apply Kd.Q_alloc | apply Kd.Q_drewN | apply Kd.Q_drew)); exact HO241.out) (Kd.Q_base ho0) hb); replace HB := Aside0.mk (below_step oB hb)) | ((with_reducible refine gate_callee (f := 16) rfl ?_); refine gl_ 32 Tryd.func16 (spec_SplitPath.calls k t242 t247 t248 _ A9.out) ?_; rintro e w98 ⟨v249, rfl, ho0, hb⟩; refine ⟨_, rfl, ?_⟩; have HO250 := Aside0.mk (Kd.R_lower (Kd.R_new' (Kd.R_new' (Kd.R_new' ho0 (kl_ HO236)) (Kd.Q_lt (by (with_reducible repeat (first | apply Kd.Q_alloc | apply Kd.Q_drewN | apply Kd.Q_drew)); exact HO241.out))) (Kd.Q_lt (by (with_reducible repeat (first | apply Kd.Q_alloc | apply Kd.Q_drewN | apply Kd.Q_drew)); exact HO246.out))) (below_size oB)); replace HO236 := ke_ HO236 ho0 hb; replace HO241 := Aside0.mk (Kd.Q_elder' (by (with_reducible repeat (first | apply Kd.Q_alloc | apply Kd.Q_drewN | apply Kd.Q_drew)); exact HO241.out) (Kd.R_base ho0) hb); replace HO246 := Aside0.mk (Kd.Q_elder' (by (with_reducible repeat (first | apply Kd.Q_alloc | apply Kd.Q_drewN | apply Kd.Q_drew)); exact HO246.out) (Kd.R_base ho0) hb); replace HB := Aside0.mk (below_step oB hb)) | (go_at_call 28; (with_reducible refine (spec_JoinPath.calls k _ _ t234 t254 _ (kO HO236) (ko HO236) A72.out).mono ?_); rintro e w' ⟨rfl, ⟨nd, rfl⟩⟩))
       go_ret
       exact ⟨oE, oB⟩
    ·rw [if_neg c73] at H
     have c73b0 : (t237.toList == t254.toList) = false := beq_eq_false_iff_ne.mpr c73
     have c73b1 : (t237.toList != t254.toList) = true := bne_iff_ne.mpr c73
     obtain rfl := Option.some.inj H
     go_enter Tryd.func7, Tryd.ntmps7
     go_wp2_with (first | ((with_reducible refine gate_callee (f := 21) rfl ?_); refine gl_ 13 Tryd.func21 (laws_big.calls _ _ l0 false _ (kD HR0) HC0.out A2.out) ?_; rintro e w' ⟨rfl, ⟨nd, rfl⟩⟩; refine ⟨_, rfl, ?_⟩) | ((with_reducible refine gate_callee (f := 25) rfl ?_); refine gl_ 15 Tryd.func25 (spec_DrawJoinPath.calls k _ _ l0 t234 _ (kD HR0) HC0.out A4.out) ?_; rintro e w99 ⟨v235, rfl, ho0, hb⟩; refine ⟨_, rfl, ?_⟩; have HO236 := Aside0.mk (Kd.R_lower ho0 (below_size oB)); replace HB := Aside0.mk (below_step oB hb); obtain ⟨Ao100, co100, eo100⟩ := Kd.R_slice HO236.out; subst eo100) | ((with_reducible refine gate_callee (f := 26) rfl ?_); refine gl_ 17 Tryd.func26 (impl_JoinPath.calls k _ _ t234 t237 _ (kO HO236) (ko HO236) A5.out) ?_; rintro e w101 ⟨rfl, hb⟩; refine ⟨_, rfl, ?_⟩; replace HO236 := kr_ HO236 hb; replace HB := Aside0.mk (below_step oB hb)) | ((with_reducible refine gate_callee (f := 17) rfl ?_); refine gl_ 20 Tryd.func17 (impl_SplitPath.calls k t237 t238 t239 _ A6.out) ?_; rintro e w102 ⟨v240, rfl, ho0, hb⟩; refine ⟨_, rfl, ?_⟩; have HO241 := Aside0.mk (Kd.Q_lower (Kd.Q_new' ho0 (kl_ HO236)) (below_size oB)); replace HO236 := Aside0.mk (Kd.R_elder' (oR HO236) (Kd.Q_base ho0) hb); replace HB := Aside0.mk (below_step oB hb)) | ((with_reducible refine gate_callee (f := 27) rfl ?_); refine gl_ 24 Tryd.func27 (spec_DrawSplitPath.calls k _ _ l0 t242 _ (kC HR0) HC0.out A7.out) ?_; rintro e w103 ⟨rfl, hb⟩; refine ⟨_, rfl, ?_⟩; replace HO236 := kr_ HO236 hb; replace HO241 := Aside0.mk (Kd.Q_below (by (with_reducible repeat (first | apply Kd.Q_alloc | apply Kd.Q_drewN | apply Kd.Q_drew)); exact HO241.out) hb); replace HB := Aside0.mk (below_step oB hb)) | ((with_reducible refine gate_callee (f := 17) rfl ?_); refine gl_ 27 Tryd.func17 (impl_SplitPath.calls k t242 t243 false _ A8.out) ?_; rintro e w104 ⟨v245, rfl, ho0, hb⟩; refine ⟨_, rfl, ?_⟩; have HO246 := Aside0.mk (Kd.Q_lower (Kd.Q_new' (Kd.Q_new' ho0 (kl_ HO236)) (Kd.Q_lt (by (with_reducible repeat (first | apply Kd.Q_alloc | apply Kd.Q_drewN | apply Kd.Q_drew)); exact HO241.out))) (below_size oB)); replace HO236 := Aside0.mk (Kd.R_elder' (oR HO236) (Kd.Q_base ho0) hb); replace HO241 := Aside0.mk (Kd.Q_elder' (by (with_reducible repeat (first | apply Kd.Q_alloc | apply Kd.Q_drewN | apply Kd.Q_drew)); exact HO241.out) (Kd.Q_base ho0) hb); replace HB := Aside0.mk (below_step oB hb)) | ((with_reducible refine gate_callee (f := 16) rfl ?_); refine gl_ 32 Tryd.func16 (spec_SplitPath.calls k t242 t247 t248 _ A9.out) ?_; rintro e w105 ⟨v249, rfl, ho0, hb⟩; refine ⟨_, rfl, ?_⟩; have HO250 := Aside0.mk (Kd.R_lower (Kd.R_new' (Kd.R_new' (Kd.R_new' ho0 (kl_ HO236)) (Kd.Q_lt (by (with_reducible repeat (first | apply Kd.Q_alloc | apply Kd.Q_drewN | apply Kd.Q_drew)); exact HO241.out))) (Kd.Q_lt (by (with_reducible repeat (first | apply Kd.Q_alloc | apply Kd.Q_drewN | apply Kd.Q_drew)); exact HO246.out))) (below_size oB)); replace HO236 := ke_ HO236 ho0 hb; replace HO241 := Aside0.mk (Kd.Q_elder' (by (with_reducible repeat (first | apply Kd.Q_alloc | apply Kd.Q_drewN | apply Kd.Q_drew)); exact HO241.out) (Kd.R_base ho0) hb); replace HO246 := Aside0.mk (Kd.Q_elder' (by (with_reducible repeat (first | apply Kd.Q_alloc | apply Kd.Q_drewN | apply Kd.Q_drew)); exact HO246.out) (Kd.R_base ho0) hb); replace HB := Aside0.mk (below_step oB hb)) | (go_at_call 28; (with_reducible refine (spec_JoinPath.calls k _ _ t234 t254 _ (kO HO236) (ko HO236) A72.out).mono ?_); rintro e w' ⟨rfl, ⟨nd, rfl⟩⟩))
     go_ret
     exact ⟨oE, oB⟩

/-- THE ONE PURE STATEMENT of laws_FnPaths: yours. -/
def laws_FnPaths.Pure : Prop := ∀ (l0 : List Int), l0.length ≤ maxLen → l0.length * 1 ≤ 140737488351232 → (∀ x ∈ l0, (Lit.int .u8 x).wf = true) → ∃ k, laws_FnPaths.f k l0 = some true
theorem laws_FnPaths.walk (P : laws_FnPaths.Pure) (a0 : Option Addr) (len0 cap0 : Nat) (z0 : List Int) (w : World) (w0 : (a0 = none ∧ len0 = 0 ∧ cap0 = 0 ∧ z0 = []) ∨ ∃ x, a0 = some x ∧ len0 ≤ cap0 ∧ cap0 ≤ maxLen ∧ z0.length = cap0 ∧ (∀ i, i < z0.length → w.cell? (x.add i) = some (.int .u8 (z0.getD i 0))) ∧ ∀ n ∈ z0, (Lit.int .u8 n).wf = true) (y0 : len0 * 1 ≤ 140737488351232) (hG : GOk w) :
  Calls Tryd.prog 7 #[.slice a0 len0 cap0] w fun e w' => e = .returned (.bool true) ∧ Below w.heap.size w w' := by
 obtain ⟨l0, rfl, hr0, hm0, hw0, hc0⟩ := ReadsInt.ofRowC w0
 obtain ⟨k, h⟩ := P l0 hm0 y0 hw0
 refine (laws_FnPaths.calls k _ _ l0 true w (Kd.C_of_reads (d := (0 : Int)) (h1 := fun _ => rfl) hr0) hc0 h hG).mono ?_
 rintro e w' ⟨rfl, hd⟩
 exact ⟨rfl, hd⟩

end Go.Proofs.YtkfcmpalbhmmaaaDoor.P
