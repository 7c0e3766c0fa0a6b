-- By this session's own program (wip/myprint.py) out of the translation; Lean checks it.
import Derived.Test.YtolkhimbfegkkaaGreatPx0
import Derived.Test.YtolkhimbfegkkaaGreatPx4
import Derived.Test.YtolkhimbfegkkaaGreatPx11
import Derived.Test.YtolkhimbfegkkaaGreatPx12
namespace Go.Proofs.YtolkhimbfegkkaaGreat.P
open Go.RowKit Go.Proofs.YtolkhimbfegkkaaGreatW.PrintWords Go.Proofs.YtolkhimbfegkkaaGreatW.PrintLast Go.Proofs.YtolkhimbfegkkaaGreatW.PrintMore
attribute [local go_sem] max2_int min2_int max_two min_two max_three min_three max_four min_four   -- for this text's walks alone
set_option linter.unusedVariables false
set_option linter.unusedSimpArgs false

/-! ### spec_InodeOk: function 47 -/
def spec_InodeOk.j0 : Nat → Bool → Int → Int → Int → List Int → List (S63) → List (S87) → Option (Bool)
 | 0, _, _, _, _, _, _, _ => none
 | k + 1, x39, x131000, x131001, x131002, x131003, x131004, x131005 => if x39 = true then (some false) else (if x131001 = 1 then (some ((x131004.length : Int) == 0)) else (if x131001 = 2 then (if (x131003.length : Int) = 0 then (some (decide (x131002 ≤ 1))) else (some false)) else (some false)))
def spec_InodeOk.f (k : Nat) (a0_0 : Int) (a0_1 : Int) (a0_2 : Int) (l0_3 : List Int) (l0_4 : List (S63)) (l0_5 : List (S87)) : Option (Bool) := (spec_l1In.f a0_0 1 1000).bind fun t131 => (if t131 = true then ((spec_l1In.f a0_2 0 1000).bind fun t132 => (if t132 = true then (if ((a0_2 == 0) != (a0_0 == 1)) = true then (spec_InodeOk.j0 k true a0_0 a0_1 a0_2 l0_3 l0_4 l0_5) else (if (l0_3.length : Int) > 100 then (spec_InodeOk.j0 k true a0_0 a0_1 a0_2 l0_3 l0_4 l0_5) else ((spec_l3Ents.f k l0_4).bind fun t133 => (if t133 = true then ((spec_l3Attrs.f k l0_5).bind fun t134 => (spec_InodeOk.j0 k (!t134) a0_0 a0_1 a0_2 l0_3 l0_4 l0_5)) else (spec_InodeOk.j0 k true a0_0 a0_1 a0_2 l0_3 l0_4 l0_5))))) else (spec_InodeOk.j0 k true a0_0 a0_1 a0_2 l0_3 l0_4 l0_5))) else (spec_InodeOk.j0 k true a0_0 a0_1 a0_2 l0_3 l0_4 l0_5))
set_option maxHeartbeats 8000000 in
set_option maxRecDepth 100000 in
theorem spec_InodeOk.calls (k : Nat) (a0_0 : Int) (a0_1 : Int) (a0_2 : Int) (A0_3 : Option Addr) (c0_3 : Nat) (l0_3 : List Int) (A0_4 : Option Addr) (c0_4 : Nat) (l0_4 : List (S63)) (A0_5 : Option Addr) (c0_5 : Nat) (l0_5 : List (S87)) (r : Bool) (w : World) (hr0_3 : Kd.C (Kd.int .u8) w A0_3 l0_3.length l0_3) (hc0_3 : l0_3.length ≤ c0_3) (hr0_4 : Kd.C k63 w A0_4 l0_4.length l0_4) (hc0_4 : l0_4.length ≤ c0_4) (hr0_5 : Kd.C k87 w A0_5 l0_5.length l0_5) (hc0_5 : l0_5.length ≤ c0_5) (h : spec_InodeOk.f k a0_0 a0_1 a0_2 l0_3 l0_4 l0_5 = some r) :
  Calls Tryz.prog 47 #[.agg #[.int .i64 a0_0, .int .i64 a0_1, .int .i64 a0_2, .slice A0_3 l0_3.length c0_3, .slice A0_4 l0_4.length c0_4, .slice A0_5 l0_5.length c0_5]] w fun e w' => e = .returned (.bool r) ∧ Below w.heap.size w w' := by
 have hu47 := Tryz.underlying47
 have HR0_3 := Aside0.mk hr0_3
 have HC0_3 := Aside0.mk hc0_3
 clear hr0_3 hc0_3
 have HR0_4 := Aside0.mk hr0_4
 have HC0_4 := Aside0.mk hc0_4
 clear hr0_4 hc0_4
 have HR0_5 := Aside0.mk hr0_5
 have HC0_5 := Aside0.mk hc0_5
 clear hr0_5 hc0_5
 have HB := Aside0.mk (Below.refl w.heap.size w)
 unfold spec_InodeOk.f at h
 have H := h
 clear h
 have HC2 := Aside0.mk H
 clear H
 go_enter Tryz.func47, Tryz.ntmps47
 go_upto_region 1 with (first | ((with_reducible refine gate_dst (N := 1) rfl ?_); (try (refine gate_guard (by rfl) ?_; dsimp only)); refine bx_ 1 #[.int .i64 a0_0, .int .i64 a0_1, .int .i64 a0_2, .slice A0_3 l0_3.length c0_3, .slice A0_4 l0_4.length c0_4, .slice A0_5 l0_5.length c0_5] 47 ?_; intro gb130 hg w3 hbox hb; have BK130 := Aside0.mk (hbox); have GW130 := gs_ hg; replace HB := Aside0.mk (below_step oB hb); clear hb hbox hg))
 (try simp only [Act.put, List.setIfInBounds_toArray, List.set_cons_zero, List.set_cons_succ])
 go_cut [39] (fun v39 wc => ∃ (kq : Nat) (x39_1 : Bool), v39 = .bool x39_1 ∧ Aside0 (spec_InodeOk.j0 kq x39_1 a0_0 a0_1 a0_2 l0_3 l0_4 l0_5 = some r) ∧ Aside0 (kq ≤ k) ∧ Aside0 (wc.heap[gb130]? = some (.cells #[.int .i64 a0_0, .int .i64 a0_1, .int .i64 a0_2, (.slice A0_3 l0_3.length c0_3), (.slice A0_4 l0_4.length c0_4), (.slice A0_5 l0_5.length c0_5)] 47 (0, 0))) ∧ Aside0 (Below w.heap.size w wc))
 case first =>
  have H := HC2.out
  clear HC2
  replace H := bA H
  obtain ⟨t131, A4, H⟩ := H
  try dsimp only at H
  replace H := itB H
  rcases H with ⟨rfl, H⟩ | ⟨rfl, H⟩
  ·replace H := bA H
   obtain ⟨t132, A6, H⟩ := H
   try dsimp only at H
   replace H := itB H
   rcases H with ⟨rfl, H⟩ | ⟨rfl, H⟩
   ·by_cases c8 : ((a0_2 == 0) != (a0_0 == 1)) = true
    ·rw [if_pos c8] at H
     have c8b0 : ((a0_2 == 0) != (a0_0 == 1)) = true := c8
     (try (have c8b1 : decide ((a0_2 == 0) = (a0_0 == 1)) = false := by simpa using c8))
     (try (have c8b2 : ((a0_2 == 0) == (a0_0 == 1)) = false := by simpa using c8))
     (try (have c8b3 : ¬ ((a0_2 == 0) = (a0_0 == 1)) := by simpa using c8))
     clear c8
     (first | rw [c8b0] | rw [c8b2] | (simp only [i64_w, i32_w]; rw [c8b0]) | skip)
     have H' := Aside0.mk H
     clear H
     obtain ⟨⟨_, _, _, _, _, _⟩, _, _, _, _, _, _⟩ := z6 BK130
     go_wp2_with (first | ((with_reducible refine gate_callee (f := 46) rfl ?_); refine gl_ 5 Tryz.func46 (spec_l1In.calls a0_0 1 1000 true _ A4.out) ?_; rintro e w' ⟨rfl, ⟨nd, rfl⟩⟩; refine ⟨_, rfl, ?_⟩) | (go_at_call 46; (with_reducible refine (spec_l1In.calls a0_2 0 1000 true _ A6.out).mono ?_); rintro e w' ⟨rfl, ⟨nd, rfl⟩⟩))
     go_meet
     case rel => exact ⟨_, (true), oS, H', ⟨by first | omega | exact Nat.le_refl _⟩, ⟨oF BK130⟩, ⟨oB⟩⟩
    ·rw [if_neg c8] at H
     have c8b0 : ((a0_2 == 0) != (a0_0 == 1)) = false := by simpa using c8
     (try (have c8b1 : decide ((a0_2 == 0) = (a0_0 == 1)) = true := by simpa using c8))
     (try (have c8b2 : ((a0_2 == 0) == (a0_0 == 1)) = true := by simpa using c8))
     clear c8
     (first | rw [c8b0] | rw [c8b2] | (simp only [i64_w, i32_w]; rw [c8b0]) | skip)
     by_cases c10 : (l0_3.length : Int) > 100
     ·rw [if_pos c10] at H
      have c10b0 : decide (100 < (l0_3.length : Int)) = true := decide_eq_true c10
      have c10b1 : decide (100 < l0_3.length) = true := decide_eq_true (by omega)
      clear c10
      have H' := Aside0.mk H
      clear H
      obtain ⟨⟨_, _, _, _, _, _⟩, _, _, _, _, _, _⟩ := z6 BK130
      go_wp2_with (first | ((with_reducible refine gate_callee (f := 46) rfl ?_); refine gl_ 5 Tryz.func46 (spec_l1In.calls a0_0 1 1000 true _ A4.out) ?_; rintro e w' ⟨rfl, ⟨nd, rfl⟩⟩; refine ⟨_, rfl, ?_⟩) | (go_at_call 46; (with_reducible refine (spec_l1In.calls a0_2 0 1000 true _ A6.out).mono ?_); rintro e w' ⟨rfl, ⟨nd, rfl⟩⟩))
      go_meet
      case rel => exact ⟨_, (true), oS, H', ⟨by first | omega | exact Nat.le_refl _⟩, ⟨oF BK130⟩, ⟨oB⟩⟩
     ·rw [if_neg c10] at H
      have c10b0 : decide (100 < (l0_3.length : Int)) = false := decide_eq_false c10
      have c10b1 : decide (100 < l0_3.length) = false := decide_eq_false (by omega)
      clear c10
      replace H := bA H
      obtain ⟨t133, A12, H⟩ := H
      try dsimp only at H
      replace H := itB H
      rcases H with ⟨rfl, H⟩ | ⟨rfl, H⟩
      ·replace H := bA H
       obtain ⟨t134, A14, H⟩ := H
       try dsimp only at H
       have H' := Aside0.mk H
       clear H
       obtain ⟨⟨_, _, _, _, _, _⟩, _, _, _, _, _, _⟩ := z6 BK130
       go_wp2_with (first | ((with_reducible refine gate_callee (f := 46) rfl ?_); refine gl_ 5 Tryz.func46 (spec_l1In.calls a0_0 1 1000 true _ A4.out) ?_; rintro e w' ⟨rfl, ⟨nd, rfl⟩⟩; refine ⟨_, rfl, ?_⟩) | (go_at_call 46; (with_reducible refine (spec_l1In.calls a0_2 0 1000 true _ A6.out).mono ?_); rintro e w' ⟨rfl, ⟨nd, rfl⟩⟩) | (go_at_call 78; (with_reducible refine (spec_l3Ents.calls k _ _ l0_4 true _ (kC HR0_4) HC0_4.out A12.out).mono ?_); rintro e w' ⟨rfl, ⟨nd, rfl⟩⟩) | (go_at_call 79; (with_reducible refine (spec_l3Attrs.calls k _ _ l0_5 t134 _ (kC HR0_5) HC0_5.out A14.out).mono ?_); rintro e w' ⟨rfl, ⟨nd, rfl⟩⟩))
       go_meet
       case rel => exact ⟨_, (!t134), oS, H', ⟨by first | omega | exact Nat.le_refl _⟩, ⟨oF BK130⟩, ⟨oB⟩⟩
      ·have H' := Aside0.mk H
       clear H
       obtain ⟨⟨_, _, _, _, _, _⟩, _, _, _, _, _, _⟩ := z6 BK130
       go_wp2_with (first | ((with_reducible refine gate_callee (f := 46) rfl ?_); refine gl_ 5 Tryz.func46 (spec_l1In.calls a0_0 1 1000 true _ A4.out) ?_; rintro e w' ⟨rfl, ⟨nd, rfl⟩⟩; refine ⟨_, rfl, ?_⟩) | (go_at_call 46; (with_reducible refine (spec_l1In.calls a0_2 0 1000 true _ A6.out).mono ?_); rintro e w' ⟨rfl, ⟨nd, rfl⟩⟩) | (go_at_call 78; (with_reducible refine (spec_l3Ents.calls k _ _ l0_4 false _ (kC HR0_4) HC0_4.out A12.out).mono ?_); rintro e w' ⟨rfl, ⟨nd, rfl⟩⟩))
       go_meet
       case rel => exact ⟨_, (true), oS, H', ⟨by first | omega | exact Nat.le_refl _⟩, ⟨oF BK130⟩, ⟨oB⟩⟩
   ·have H' := Aside0.mk H
    clear H
    obtain ⟨⟨_, _, _, _, _, _⟩, _, _, _, _, _, _⟩ := z6 BK130
    go_wp2_with (first | ((with_reducible refine gate_callee (f := 46) rfl ?_); refine gl_ 5 Tryz.func46 (spec_l1In.calls a0_0 1 1000 true _ A4.out) ?_; rintro e w' ⟨rfl, ⟨nd, rfl⟩⟩; refine ⟨_, rfl, ?_⟩) | (go_at_call 46; (with_reducible refine (spec_l1In.calls a0_2 0 1000 false _ A6.out).mono ?_); rintro e w' ⟨rfl, ⟨nd, rfl⟩⟩))
    go_meet
    case rel => exact ⟨_, (true), oS, H', ⟨by first | omega | exact Nat.le_refl _⟩, ⟨oF BK130⟩, ⟨oB⟩⟩
  ·have H' := Aside0.mk H
   clear H
   obtain ⟨⟨_, _, _, _, _, _⟩, _, _, _, _, _, _⟩ := z6 BK130
   go_wp2_with (first | ((with_reducible refine gate_callee (f := 46) rfl ?_); refine gl_ 5 Tryz.func46 (spec_l1In.calls a0_0 1 1000 false _ A4.out) ?_; rintro e w' ⟨rfl, ⟨nd, rfl⟩⟩; refine ⟨_, rfl, ?_⟩))
   go_meet
   case rel => exact ⟨_, (true), oS, H', ⟨by first | omega | exact Nat.le_refl _⟩, ⟨oF BK130⟩, ⟨oB⟩⟩
 case rest =>
  clear HC2
  obtain ⟨kq, x39_1, rfl, HA, HJ1, BK130, HB⟩ := hcut
  cases kq with
  | zero => exact absurd HA.out (by simp [spec_InodeOk.j0])
  | succ kj1 =>
   have H := HA.out
   clear HA
   simp only [spec_InodeOk.j0] at H
   replace H := itB H
   rcases H with ⟨rfl, H⟩ | ⟨rfl, H⟩
   ·obtain rfl := Option.some.inj H
    go_wp2
    go_ret
    exact ⟨oE, oB⟩
   ·by_cases c20 : a0_1 = 1
    ·rw [if_pos c20] at H
     have c20b0 : (a0_1 == 1) = true := beq_iff_eq.mpr c20
     have c20b1 : (a0_1 != 1) = false := bne_eq_false_iff_eq.mpr c20
     clear c20
     obtain rfl := Option.some.inj H
     obtain ⟨⟨_, _, _, _, _, _⟩, _, _, _, _, _, _⟩ := z6 BK130
     go_wp2
     go_ret
     exact ⟨oE, oB⟩
    ·rw [if_neg c20] at H
     have c20b0 : (a0_1 == 1) = false := beq_eq_false_iff_ne.mpr c20
     have c20b1 : (a0_1 != 1) = true := bne_iff_ne.mpr c20
     by_cases c22 : a0_1 = 2
     ·rw [if_pos c22] at H
      have c22b0 : (a0_1 == 2) = true := beq_iff_eq.mpr c22
      have c22b1 : (a0_1 != 2) = false := bne_eq_false_iff_eq.mpr c22
      clear c22
      by_cases c23 : (l0_3.length : Int) = 0
      ·rw [if_pos c23] at H
       have c23b0 : ((l0_3.length : Int) == 0) = true := beq_iff_eq.mpr c23
       have c23b1 : ((l0_3.length : Int) != 0) = false := bne_eq_false_iff_eq.mpr c23
       clear c23
       obtain rfl := Option.some.inj H
       obtain ⟨⟨_, _, _, _, _, _⟩, _, _, _, _, _, _⟩ := z6 BK130
       go_wp2
       go_ret
       exact ⟨oE, oB⟩
      ·rw [if_neg c23] at H
       have c23b0 : ((l0_3.length : Int) == 0) = false := beq_eq_false_iff_ne.mpr c23
       have c23b1 : ((l0_3.length : Int) != 0) = true := bne_iff_ne.mpr c23
       have c23b2 : ¬ (l0_3 = []) := fun h_ => c23 (by rw [h_]; rfl)
       obtain rfl := Option.some.inj H
       obtain ⟨⟨_, _, _, _, _, _⟩, _, _, _, _, _, _⟩ := z6 BK130
       go_wp2
       go_ret
       exact ⟨oE, oB⟩
     ·rw [if_neg c22] at H
      have c22b0 : (a0_1 == 2) = false := beq_eq_false_iff_ne.mpr c22
      have c22b1 : (a0_1 != 2) = true := bne_iff_ne.mpr c22
      obtain rfl := Option.some.inj H
      obtain ⟨⟨_, _, _, _, _, _⟩, _, _, _, _, _, _⟩ := z6 BK130
      go_wp2
      go_ret
      exact ⟨oE, oB⟩

/-! ### impl_pathsBelow: function 20 -/
mutual
def impl_pathsBelow.l0 : Nat → ByteArray → List ByteArray → List (S63) → Int → Int → List (S47) → Int → Option (List ByteArray)
 | 0, _, _, _, _, _, _, _ => none
 | k + 1, x2, x7, x15, x16, x17, x455000, x455001 => if x17 < x16 then (if 0 ≤ x17 then (if x17 < (x15.length : Int) then (if x2.size + 1 ≤ 9223372036854775807 then (if (x2 ++ (⟨#[47]⟩ : ByteArray)).size + ((rd_T63 x15 x17).f0).size ≤ 9223372036854775807 then (if x7.length < 8796093022208 then ((some (x7 ++ [(x2 ++ (⟨#[47]⟩ : ByteArray)) ++ ((rd_T63 x15 x17).f0)] : List ByteArray)).bind fun y461 => ((impl_InodeAt.f k x455000 x455001 ((rd_T63 x15 x17).f1)).bind fun bt464 => ((impl_pathsBelow.f k x455000 x455001 bt464.1 bt464.2.1 bt464.2.2.1 bt464.2.2.2.1 bt464.2.2.2.2.1 bt464.2.2.2.2.2.1 ((x2 ++ (⟨#[47]⟩ : ByteArray)) ++ ((rd_T63 x15 x17).f0))).bind fun t478 => (if y461.length + t478.length < 8796093022208 then (impl_pathsBelow.l0 k x2 (y461 ++ t478) x15 x16 (wrap64 (x17 + 1)) x455000 x455001) else (none))))) else (none)) else (none)) else (none)) else (none)) else (none)) else (some x7)
def impl_pathsBelow.f : Nat → List (S47) → Int → Int → Int → Int → List Int → List (S63) → List (S87) → ByteArray → Option (List ByteArray)
 | 0, _, _, _, _, _, _, _, _, _ => none
 | k + 1, l0_0, a0_1, a1_0, a1_1, a1_2, l1_3, l1_4, l1_5, a2 => impl_pathsBelow.l0 k a2 (([] : List ByteArray)) l1_4 (l1_4.length : Int) 0 l0_0 a0_1
end
set_option maxHeartbeats 8000000 in
set_option maxRecDepth 100000 in
theorem impl_pathsBelow.calls (k : Nat) : ∀ (A0_0 : Option Addr) (c0_0 : Nat) (l0_0 : List (S47)) (a0_1 : Int) (a1_0 : Int) (a1_1 : Int) (a1_2 : Int) (A1_3 : Option Addr) (c1_3 : Nat) (l1_3 : List Int) (A1_4 : Option Addr) (c1_4 : Nat) (l1_4 : List (S63)) (A1_5 : Option Addr) (c1_5 : Nat) (l1_5 : List (S87)) (a2 : ByteArray) (r : List ByteArray) (w : World) (hr0_0 : Kd.C k47 w A0_0 l0_0.length l0_0) (hc0_0 : l0_0.length ≤ c0_0) (hr1_3 : Kd.C (Kd.int .u8) w A1_3 l1_3.length l1_3) (hc1_3 : l1_3.length ≤ c1_3) (hr1_4 : Kd.C k63 w A1_4 l1_4.length l1_4) (hc1_4 : l1_4.length ≤ c1_4) (hr1_5 : Kd.C k87 w A1_5 l1_5.length l1_5) (hc1_5 : l1_5.length ≤ c1_5) (h : impl_pathsBelow.f k l0_0 a0_1 a1_0 a1_1 a1_2 l1_3 l1_4 l1_5 a2 = some r),
  Calls Tryz.prog 20 #[.agg #[.slice A0_0 l0_0.length c0_0, .int .i64 a0_1], .agg #[.int .i64 a1_0, .int .i64 a1_1, .int .i64 a1_2, .slice A1_3 l1_3.length c1_3, .slice A1_4 l1_4.length c1_4, .slice A1_5 l1_5.length c1_5], .string a2] w fun e w' => ∃ v0_ : Value, e = .returned (v0_) ∧ Kd.R Kd.string 9 w' w.heap.size (fun _ => True) v0_ r ∧ Below w.heap.size w w' := by
 induction k using Nat.strongRecOn with
 | _ k ih =>
 intro A0_0 c0_0 l0_0 a0_1 a1_0 a1_1 a1_2 A1_3 c1_3 l1_3 A1_4 c1_4 l1_4 A1_5 c1_5 l1_5 a2 r w hr0_0 hc0_0 hr1_3 hc1_3 hr1_4 hc1_4 hr1_5 hc1_5 h
 cases k with
 | zero => exact absurd h (by simp [impl_pathsBelow.f])
 | succ k =>
 simp only [impl_pathsBelow.f] at h
 have hu30 := Tryz.underlying30
 have hu47 := Tryz.underlying47
 have hu63 := Tryz.underlying63
 have HR0_0 := Aside0.mk hr0_0
 have HC0_0 := Aside0.mk hc0_0
 clear hr0_0 hc0_0
 have HR1_3 := Aside0.mk hr1_3
 have HC1_3 := Aside0.mk hc1_3
 clear hr1_3 hc1_3
 have HR1_4 := Aside0.mk hr1_4
 have HC1_4 := Aside0.mk hc1_4
 clear hr1_4 hc1_4
 have HR1_5 := Aside0.mk hr1_5
 have HC1_5 := Aside0.mk hc1_5
 clear hr1_5 hc1_5
 have HB := Aside0.mk (Below.refl w.heap.size w)
 have H : (impl_pathsBelow.l0 k a2 (([] : List ByteArray)) l1_4 (l1_4.length : Int) 0 l0_0 a0_1) = some r := h
 clear h
 obtain ⟨y456, hy456⟩ : ∃ y_ : List ByteArray, y_ = (([] : List ByteArray)) := ⟨_, rfl⟩
 replace H : (impl_pathsBelow.l0 k a2 y456 l1_4 (l1_4.length : Int) 0 l0_0 a0_1) = some r := by first | (rw [hy456]; with_reducible exact H) | (have H2_ := (Option.bind_some _ _).symm.trans H; rw [hy456]; with_reducible exact H2_) | (have H2_ := (Option.bind_some _ _).symm.trans H; with_reducible exact H2_) | with_reducible exact H | (rw [hy456]; exact H) | exact H
 have Ny456 := Aside0.mk hy456
 clear hy456
 have H' := Aside0.mk H
 clear H
 go_enter Tryz.func20, Tryz.ntmps20
 go_wp2_with (first | ((with_reducible refine gate_dst (N := 3) rfl ?_); refine bx_ 3 #[.slice A0_0 l0_0.length c0_0, .int .i64 a0_1] 30 ?_; intro gb454 hg w4 hbox hb; have BK454 := Aside0.mk (hbox); have GW454 := gs_ hg; replace HB := Aside0.mk (below_step oB hb); clear hb hbox hg) | ((with_reducible refine gate_dst (N := 4) rfl ?_); refine bx_ 4 #[.int .i64 a1_0, .int .i64 a1_1, .int .i64 a1_2, .slice A1_3 l1_3.length c1_3, .slice A1_4 l1_4.length c1_4, .slice A1_5 l1_5.length c1_5] 47 ?_; intro gb455 hg w5 hbox hb; have BK455 := Aside0.mk (hbox); have GW455 := gs_ hg; have NB454_455 := nl_ hg BK454; have NB455_454 := nr_ hg BK454; replace BK454 := kb_ BK454 hb; replace HB := Aside0.mk (below_step oB hb); clear hb hbox hg) | ((with_reducible refine gate_dst (N := 13) rfl ?_); refine Kd.R_lit Kd.string _ 9 ?hg (N := 13) ?hd (xs := ([] : List ByteArray)) (inner := []) (ok := fun _ => True) (okp := fun _ => True) ?hr ?hp (fun _ hk => hk) trivial (Below.refl _ _) (Nat.le_refl _) (by simp) ?_; (case hd => rfl); (case hg => rfl); (case hr => first | (go_simp; done) | (go_simp; rfl)); (case hp => exact (Reps.none _ _)); intro v457 w6 ho7 hb hg_ hnew_; clear hg_ hnew_; (first | rw [← Ny456.out] at ho7 | (simp only [Int.reduceToNat] at ho7; rw [← Ny456.out] at ho7)); have HO458 := Aside0.mk (Kd.R_lower ho7 (below_size oB)); replace BK454 := kb_ BK454 hb; replace BK455 := kb_ BK455 hb; replace HB := Aside0.mk (below_step oB hb); clear hb ho7; have hnb8 := NB455_454.out; have hnc8 := NB454_455.out; obtain ⟨⟨_, _, _, _, _, _⟩, _, _, _, _, _, _⟩ := z6 BK455))
 go_loopg [7, 17] k (fun kq v7 v17 w' => ∃ (x7_1 : List ByteArray) (x17_1 : Int), v17 = .int .i64 x17_1 ∧ Aside0 (impl_pathsBelow.l0 kq a2 x7_1 l1_4 (l1_4.length : Int) x17_1 l0_0 a0_1 = some r) ∧ Aside0 (kq ≤ k) ∧ Aside0 (Kd.R Kd.string 9 w' w.heap.size (fun _ => True) v7 x7_1) ∧ Aside0 (w'.heap[gb454]? = some (.cells #[(.slice A0_0 l0_0.length c0_0), .int .i64 a0_1] 30 (0, 0))) ∧ Aside0 (w'.heap[gb455]? = some (.cells #[.int .i64 a1_0, .int .i64 a1_1, .int .i64 a1_2, (.slice A1_3 l1_3.length c1_3), (.slice A1_4 l1_4.length c1_4), (.slice A1_5 l1_5.length c1_5)] 47 (0, 0))) ∧ Aside0 (Below w.heap.size w w'))
 case atStart => exact ⟨(y456), (0), oS, H', ⟨Nat.le_refl _⟩, ⟨oR HO458⟩, ⟨oF BK454⟩, ⟨oF BK455⟩, ⟨oB⟩⟩
 case round =>
  clear H'
  obtain ⟨x7_1, x17_1, rfl, HA, HK1, HO_7, BK454, BK455, HB⟩ := hrel
  cases gk with
  | zero => exact absurd HA.out (by simp [impl_pathsBelow.l0])
  | succ k1 =>
   have H := HA.out
   clear HA
   simp only [impl_pathsBelow.l0] at H
   replace H := itD H
   rcases H with ⟨c10b0, H⟩ | ⟨c10b0, H⟩
   ·replace H := itD H
    rcases H with ⟨c11b0, H⟩ | ⟨c11b0, H⟩
    ·replace H := itD H
     rcases H with ⟨c12b0, H⟩ | ⟨c12b0, H⟩
     ·by_cases c13 : a2.size + 1 ≤ 9223372036854775807
      ·rw [if_pos c13] at H
       have c13b0 := eq_true c13
       have c13b1 : decide (a2.size + 1 ≤ 9223372036854775807) = true := decide_eq_true c13
       try have c13b2 : (9223372036854775807 < a2.size + 1) = False := eq_false (Nat.not_lt.2 c13)
       by_cases c14 : (a2 ++ (⟨#[47]⟩ : ByteArray)).size + ((rd_T63 l1_4 x17_1).f0).size ≤ 9223372036854775807
       ·rw [if_pos c14] at H
        have c14b0 := eq_true c14
        have c14b1 : decide ((a2 ++ (⟨#[47]⟩ : ByteArray)).size + ((rd_T63 l1_4 x17_1).f0).size ≤ 9223372036854775807) = true := decide_eq_true c14
        try have c14b2 : (9223372036854775807 < (a2 ++ (⟨#[47]⟩ : ByteArray)).size + ((rd_T63 l1_4 x17_1).f0).size) = False := eq_false (Nat.not_lt.2 c14)
        by_cases c15 : x7_1.length < 8796093022208
        ·rw [if_pos c15] at H
         have LMc15 := Aside0.mk c15
         clear c15
         obtain ⟨y461, hy461⟩ : ∃ y_ : List ByteArray, y_ = (x7_1 ++ [(a2 ++ (⟨#[47]⟩ : ByteArray)) ++ ((rd_T63 l1_4 x17_1).f0)]) := ⟨_, rfl⟩
         replace H : ((impl_InodeAt.f k1 l0_0 a0_1 ((rd_T63 l1_4 x17_1).f1)).bind fun bt464 => ((impl_pathsBelow.f k1 l0_0 a0_1 bt464.1 bt464.2.1 bt464.2.2.1 bt464.2.2.2.1 bt464.2.2.2.2.1 bt464.2.2.2.2.2.1 ((a2 ++ (⟨#[47]⟩ : ByteArray)) ++ ((rd_T63 l1_4 x17_1).f0))).bind fun t478 => (if y461.length + t478.length < 8796093022208 then (impl_pathsBelow.l0 k1 a2 (y461 ++ t478) l1_4 (l1_4.length : Int) (wrap64 (x17_1 + 1)) l0_0 a0_1) else (none)))) = some r := by first | (rw [hy461]; with_reducible exact H) | (have H2_ := (Option.bind_some _ _).symm.trans H; rw [hy461]; with_reducible exact H2_) | (have H2_ := (Option.bind_some _ _).symm.trans H; with_reducible exact H2_) | with_reducible exact H | (rw [hy461]; exact H) | exact H
         have Ny461 := Aside0.mk hy461
         clear hy461
         replace H := bA H
         obtain ⟨⟨t464, t465, t466, t467, t470, t473, t476⟩, A16, H⟩ := H
         try dsimp only at H
         replace H := bA H
         obtain ⟨t478, A17, H⟩ := H
         try dsimp only at H
         by_cases c18 : y461.length + t478.length < 8796093022208
         ·rw [if_pos c18] at H
          have LMc18 := Aside0.mk c18
          clear c18
          obtain ⟨y481, hy481⟩ : ∃ y_ : List ByteArray, y_ = (y461 ++ t478) := ⟨_, rfl⟩
          replace H : (impl_pathsBelow.l0 k1 a2 y481 l1_4 (l1_4.length : Int) (wrap64 (x17_1 + 1)) l0_0 a0_1) = some r := by first | (rw [hy481]; with_reducible exact H) | (have H2_ := (Option.bind_some _ _).symm.trans H; rw [hy481]; with_reducible exact H2_) | (have H2_ := (Option.bind_some _ _).symm.trans H; with_reducible exact H2_) | with_reducible exact H | (rw [hy481]; exact H) | exact H
          have Ny481 := Aside0.mk hy481
          clear hy481
          have H' := Aside0.mk H
          clear H
          have p459 : (0 ≤ (x17_1 : Int)) = True := oT
          have q459 : (x17_1 < (l1_4.length : Int)) = True := oT
          obtain ⟨ad459, e459, hx459_0, hx459_1⟩ := at_T63 HR1_4.out x17_1 oa oa
          cases e459
          replace hx459_0 := cB HB hx459_0
          replace hx459_1 := cB HB hx459_1
          go_wp2_with (first | ((with_reducible refine gate_dst (N := 9) rfl ?_); refine bx_ 9 #[.string (⟨#[]⟩ : ByteArray), .int .i64 0] 63 ?_; intro gb460 hg w19 hbox hb; have BK460 := Aside0.mk (hbox); have GW460 := gs_ hg; have NB454_460 := nl_ hg BK454; have NB460_454 := nr_ hg BK454; have NB455_460 := nl_ hg BK455; have NB460_455 := nr_ hg BK455; replace HO_7 := kr_ HO_7 hb; replace BK454 := kb_ BK454 hb; replace BK455 := kb_ BK455 hb; replace HB := Aside0.mk (below_step oB hb); clear hb hbox hg; have hnb20 := NB460_454.out; have hnc20 := NB454_460.out; have hnb21 := NB460_455.out; have hnc21 := NB455_460.out; obtain ⟨⟨_, _⟩, _, _⟩ := z2 BK460) | ((with_reducible refine gate_builtin (b := .append) (xs := #[.tmp 26, .tmp 28]) rfl ?_); at_builtin; refine Kd.R_append Kd.string (w0 := w) w.heap.size rfl (.tmp 26) (.tmp 28) 26 9 (.string ⟨#[]⟩) 16 rfl Tryz.underlying26 info9 rfl (by decide) (by omega) u7 x7_1 ((a2 ++ (⟨#[47]⟩ : ByteArray)) ++ ((rd_T63 l1_4 x17_1).f0)) [.string ((a2 ++ (⟨#[47]⟩ : ByteArray)) ++ ((rd_T63 l1_4 x17_1).f0))] (fun _ => True) (fun _ => False) rfl (by first | (go_simp; done) | (go_simp; rfl)) ?aP (fun _ hk => hk.elim) ?aF ?aO ?aB ?aS ?aL ?_; (case aP => exact rfl); (case aB => exact oB); (case aF => exact (fun _ _ => trivial)); (case aO => exact (by (with_reducible repeat (first | apply Kd.R_alloc | apply Kd.R_drewN | apply Kd.R_drew)); exact Kd.R_mono (Kd.R_far (p := ⟨gb460, 1, none⟩) (Kd.R_far (p := ⟨gb460, 0, none⟩) (Kd.R_types HO_7.out BK460.out (by decide)) (fun _ hk => hk.2) (.string ((rd_T63 l1_4 x17_1).f0))) (fun _ hk => hk.2) (.int .i64 ((rd_T63 l1_4 x17_1).f1))) (fun _ hk => trivial))); (case aS => exact (below_size oB)); (case aL => have := LMc15.out; omega); intro v462 w23 ho hb hg hat; rw [← Ny461.out] at ho; have HO463 := Aside0.mk (ho); replace BK454 := Aside0.mk (blk_grown (g := gb454) (o := .cells #[.slice A0_0 l0_0.length c0_0, .int .i64 a0_1] 30 (0, 0)) (oF BK454) hg (Kd.R_ne HO_7.out BK454.out (by decide))); replace BK455 := Aside0.mk (blk_grown (g := gb455) (o := .cells #[.int .i64 a1_0, .int .i64 a1_1, .int .i64 a1_2, .slice A1_3 l1_3.length c1_3, .slice (some ad459) l1_4.length c1_4, .slice A1_5 l1_5.length c1_5] 47 (0, 0)) (oF BK455) hg (Kd.R_ne HO_7.out BK455.out (by decide))); replace BK460 := Aside0.mk (blk_grown (g := gb460) (o := .cells #[.string ((rd_T63 l1_4 x17_1).f0), .int .i64 ((rd_T63 l1_4 x17_1).f1)] 63 (0, 0)) (oP BK460) hg (Kd.R_ne HO_7.out BK460.out (by decide))); replace HB := Aside0.mk (hb); clear HO_7; clear ho hb hg hat; have hnb24 := NB454_455.out; have hnc24 := NB455_454.out; obtain ⟨⟨_, _⟩, _, _⟩ := z2 BK454; obtain ⟨⟨_, _⟩, _, _⟩ := z2 BK460) | ((with_reducible refine gate_callee (f := 19) rfl ?_); refine gl_ 34 Tryz.func19 (impl_InodeAt.calls k1 _ _ l0_0 a0_1 ((rd_T63 l1_4 x17_1).f1) t464 t465 t466 t467 t470 t473 t476 _ (kC HR0_0) HC0_0.out A16.out) ?_; rintro e w27 ⟨v468, v471, v474, rfl, ho0, ho1, ho2, hb⟩; refine ⟨_, rfl, ?_⟩; have HO469 := Aside0.mk (Kd.R_lower ho0 (below_size oB)); have HO472 := Aside0.mk (Kd.R_lower (Kd.R_newB ho1 (g := gb460) (o := .cells #[.string ((rd_T63 l1_4 x17_1).f0), .int .i64 ((rd_T63 l1_4 x17_1).f1)] 63 (0, 0)) (oF BK460)) (below_size oB)); have HO475 := Aside0.mk (Kd.R_lower ho2 (below_size oB)); replace HO463 := kr_ HO463 hb; replace BK454 := kb_ BK454 hb; replace BK455 := kb_ BK455 hb; replace BK460 := kb_ BK460 hb; replace HB := Aside0.mk (below_step oB hb); (try clear ho1); (try clear ho2)) | ((with_reducible refine gate_dst (N := 11) rfl ?_); refine bx_ 11 #[.int .i64 0, .int .i64 0, .int .i64 0, .slice none 0 0, .slice none 0 0, .slice none 0 0] 47 ?_; intro gb477 hg w28 hbox hb; have BK477 := Aside0.mk (hbox); have GW477 := gs_ hg; have NB454_477 := nl_ hg BK454; have NB477_454 := nr_ hg BK454; have NB455_477 := nl_ hg BK455; have NB477_455 := nr_ hg BK455; have NB460_477 := nl_ hg BK460; have NB477_460 := nr_ hg BK460; replace HO463 := kr_ HO463 hb; replace HO469 := kr_ HO469 hb; replace HO472 := kr_ HO472 hb; replace HO475 := kr_ HO475 hb; replace BK454 := kb_ BK454 hb; replace BK455 := kb_ BK455 hb; replace BK460 := kb_ BK460 hb; replace HB := Aside0.mk (below_step oB hb); clear hb hbox hg; have hnb29 := NB477_454.out; have hnc29 := NB454_477.out; have hnb30 := NB477_455.out; have hnc30 := NB455_477.out; have hnb31 := NB477_460.out; have hnc31 := NB460_477.out; obtain ⟨⟨_, _, _, _, _, _⟩, _, _, _, _, _, _⟩ := z6 BK477; obtain ⟨Ao33, co33, eo33⟩ := Kd.R_slice HO469.out; subst eo33; obtain ⟨Ao34, co34, eo34⟩ := Kd.R_slice HO472.out; subst eo34; obtain ⟨Ao35, co35, eo35⟩ := Kd.R_slice HO475.out; subst eo35; obtain ⟨⟨_, _⟩, _, _⟩ := z2 BK454) | ((with_reducible refine gate_callee (f := 20) rfl ?_); refine gl_ 41 Tryz.func20 (ih k1 (by have := HK1.out; omega) _ _ l0_0 a0_1 t464 t465 t466 _ _ t467 _ _ t470 _ _ t473 ((a2 ++ (⟨#[47]⟩ : ByteArray)) ++ ((rd_T63 l1_4 x17_1).f0)) t478 _ ?side1 HC0_0.out (rcR1 HO469 BK477) (ko HO469) (rcR1 HO472 BK477) (ko HO472) (rcR1 HO475 BK477) (ko HO475) A17.out) ?_; (case side1 => exact Kd.C_below HR0_0.out oB); rintro e w37 ⟨v479, rfl, ho0, hb⟩; refine ⟨_, rfl, ?_⟩; have HO480 := Aside0.mk (Kd.R_lower (Kd.R_new' ho0 (ltR1 HO463 BK477)) (below_size oB)); replace HO463 := elR1 HO463 BK477 (Kd.R_base ho0) hb; replace HO469 := beR1 HO469 BK477 hb; replace HO472 := beR1 HO472 BK477 hb; replace HO475 := beR1 HO475 BK477 hb; replace BK454 := kb_ BK454 hb; replace BK455 := kb_ BK455 hb; replace BK460 := kb_ BK460 hb; replace BK477 := kp_ #[.int .i64 t464, .int .i64 t465, .int .i64 t466, .slice Ao33 t467.length co33, .slice Ao34 t470.length co34, .slice Ao35 t473.length co35] BK477 hb; replace HB := Aside0.mk (below_step oB hb); (try clear hk); obtain ⟨Ao39, co39, eo39⟩ := Kd.R_slice HO480.out; subst eo39) | ((with_reducible refine gate_builtin (b := .append) (xs := #[.tmp 37, .tmp 41]) rfl ?_); at_builtin; refine Kd.R_append_rows Kd.string (w0 := w) w.heap.size rfl (.tmp 37) (.tmp 41) 26 9 (.string ⟨#[]⟩) 16 rfl Tryz.underlying26 info9 rfl (by decide) (by omega) v462 y461 t478 _ _ _ (fun k_ => some k_ ≠ (.slice Ao39 t478.length co39 : Value).ownBlock) (fun _ => False) rfl rfl ?aO ?aR (fun _ _ h => h) (fun _ h => h.elim) ?aF ?aB ?aS ?aL ?_; (case aR => repeat (first | exact (Kd.R_reads' HO480.out).2.2 | (with_reducible refine Kd.C_alloc ?_ _) | (with_reducible refine Kd.C_drewN ?_ _) | (with_reducible refine Kd.C_drew ?_))); (case aB => exact oB); (case aF => exact (fun k_ hk => Kd.fresh' (kl_ HO480) k_ hk)); (case aO => exact (by (with_reducible repeat (first | apply Kd.R_alloc | apply Kd.R_drewN | apply Kd.R_drew)); exact Kd.R_mono HO463.out (fun _ hk => hk.2))); (case aS => exact (below_size oB)); (case aL => have := LMc18.out; omega); intro v482 w38 ho hb hg hat; rw [← Ny481.out] at ho; have HO483 := Aside0.mk (ho); replace BK454 := Aside0.mk (blk_grown (g := gb454) (o := .cells #[.slice A0_0 l0_0.length c0_0, .int .i64 a0_1] 30 (0, 0)) (oF BK454) hg (Kd.R_ne HO463.out BK454.out (by decide))); replace BK455 := Aside0.mk (blk_grown (g := gb455) (o := .cells #[.int .i64 a1_0, .int .i64 a1_1, .int .i64 a1_2, .slice A1_3 l1_3.length c1_3, .slice (some ad459) l1_4.length c1_4, .slice A1_5 l1_5.length c1_5] 47 (0, 0)) (oF BK455) hg (Kd.R_ne HO463.out BK455.out (by decide))); replace BK460 := Aside0.mk (blk_grown (g := gb460) (o := .cells #[.string ((rd_T63 l1_4 x17_1).f0), .int .i64 ((rd_T63 l1_4 x17_1).f1)] 63 (0, 0)) (oF BK460) hg (Kd.R_ne HO463.out BK460.out (by decide))); replace HO469 := Aside0.mk (Kd.R_over' (oR HO469) (Kd.R_typed (oR HO463)) (by decide) hg); replace HO472 := Aside0.mk (Kd.R_over' (oR HO472) (Kd.R_typed (oR HO463)) (by decide) hg); replace HO475 := Aside0.mk (Kd.R_over' (oR HO475) (Kd.R_typed (oR HO463)) (by decide) hg); replace BK477 := Aside0.mk (blk_grown (g := gb477) (o := .cells #[.int .i64 t464, .int .i64 t465, .int .i64 t466, .slice Ao33 t467.length co33, .slice Ao34 t470.length co34, .slice Ao35 t473.length co35] 47 (0, 0)) (oF BK477) hg (Kd.R_ne HO463.out BK477.out (by decide))); replace HO480 := Aside0.mk (Kd.R_after (ok := (fun _ => True)) (oR HO480) hg hat); replace HB := Aside0.mk (hb); clear HO463; clear ho hb hg hat))
          go_roundg k1
          case measure => have := HK1.out; omega
          case rel => exact ⟨(y481), (wrap64 (x17_1 + 1)), oS, H', ⟨by have := HK1.out; omega⟩, ⟨by (with_reducible repeat (first | apply Kd.R_alloc | apply Kd.R_drewN | apply Kd.R_drew)); exact Kd.R_mono HO483.out (fun _ hk => trivial)⟩, ⟨oF BK454⟩, ⟨oF BK455⟩, ⟨oB⟩⟩
         ·rw [if_neg c18] at H
          exact absurd H (by simp)
        ·rw [if_neg c15] at H
         exact absurd H (by simp)
       ·rw [if_neg c14] at H
        exact absurd H (by simp)
      ·rw [if_neg c13] at H
       exact absurd H (by simp)
     ·cases H
    ·cases H
   ·obtain rfl := Option.some.inj H
    go_wp2
    go_ret
    exact ⟨_, oE, oR HO_7, oB⟩

/-! ### laws_szInodeS: function 13 -/
def laws_szInodeS.l0 : Nat → List (S59) → Int → Int → Option (Int)
 | 0, _, _, _ => none
 | k + 1, x0, x1, x5 => if x5 < (x0.length : Int) then (if 0 ≤ x5 then ((laws_szInode.f k ((rd_T59 x0 x5).f0) ((rd_T59 x0 x5).f1) ((rd_T59 x0 x5).f2) ((rd_T59 x0 x5).f3) ((rd_T59 x0 x5).f4) ((rd_T59 x0 x5).f5) x1).bind fun t112 => (if t112 < 0 then (some (-1)) else (laws_szInodeS.l0 k x0 t112 (wrap64 (x5 + 1))))) else (none)) else (some x1)
def laws_szInodeS.f (k : Nat) (l0 : List (S59)) (a1 : Int) : Option (Int) := if (wrap64 (a1 - (l0.length : Int))) < 0 then (some (-1)) else (laws_szInodeS.l0 k l0 (wrap64 (a1 - (l0.length : Int))) 0)
set_option maxHeartbeats 8000000 in
set_option maxRecDepth 100000 in
theorem laws_szInodeS.calls (k : Nat) (A0 : Option Addr) (c0 : Nat) (l0 : List (S59)) (a1 : Int) (r : Int) (w : World) (hr0 : Kd.C k59 w A0 l0.length l0) (hc0 : l0.length ≤ c0) (h : laws_szInodeS.f k l0 a1 = some r) :
  Calls Tryz.prog 13 #[.slice A0 l0.length c0, .int .i64 a1] w fun e w' => e = .returned (.int .i64 r) ∧ Below w.heap.size w w' := by
 have hu59 := Tryz.underlying59
 have HR0 := Aside0.mk hr0
 have HC0 := Aside0.mk hc0
 clear hr0 hc0
 have HB := Aside0.mk (Below.refl w.heap.size w)
 unfold laws_szInodeS.f at h
 have H := h
 clear h
 replace H := itD H
 rcases H with ⟨c3b0, H⟩ | ⟨c3b0, H⟩
 ·obtain rfl := Option.some.inj H
  go_enter Tryz.func13, Tryz.ntmps13
  go_wp2
  go_ret
  exact ⟨oE, oB⟩
 ·have H' := Aside0.mk H
  clear H
  go_enter Tryz.func13, Tryz.ntmps13
  go_wp2
  go_loopg [1, 5] k (fun kq v1 v5 w' => ∃ (x1_1 : Int) (x5_1 : Int), v1 = .int .i64 x1_1 ∧ v5 = .int .i64 x5_1 ∧ Aside0 (laws_szInodeS.l0 kq l0 x1_1 x5_1 = some r) ∧ Aside0 (kq ≤ k) ∧ Aside0 (Below w.heap.size w w'))
  case atStart => exact ⟨(wrap64 (a1 - (l0.length : Int))), (0), oS, oS, H', ⟨Nat.le_refl _⟩, ⟨oB⟩⟩
  case round =>
   clear H'
   try clear c3b0
   obtain ⟨x1_1, x5_1, rfl, rfl, HA, HK1, HB⟩ := hrel
   cases gk with
   | zero => exact absurd HA.out (by simp [laws_szInodeS.l0])
   | succ k1 =>
    have H := HA.out
    clear HA
    simp only [laws_szInodeS.l0] at H
    replace H := itD H
    rcases H with ⟨c4b0, H⟩ | ⟨c4b0, H⟩
    ·replace H := itD H
     rcases H with ⟨c5b0, H⟩ | ⟨c5b0, H⟩
     ·replace H := bA H
      obtain ⟨t112, A6, H⟩ := H
      try dsimp only at H
      replace H := itD H
      rcases H with ⟨c7b0, H⟩ | ⟨c7b0, H⟩
      ·obtain rfl := Option.some.inj H
       have p111 : (0 ≤ (x5_1 : Int)) = True := oT
       have q111 : (x5_1 < (l0.length : Int)) = True := oT
       obtain ⟨ad111, A111_3, c111_3, A111_4, c111_4, A111_5, c111_5, e111, hx111_0, hx111_1, hx111_2, hx111_3, hx111_4, hx111_5, hl111_3, hi111_3, hl111_4, hi111_4, hl111_5, hi111_5⟩ := at_T59 HR0.out x5_1 oa oa
       cases e111
       replace hx111_0 := cB HB hx111_0
       replace hx111_1 := cB HB hx111_1
       replace hx111_2 := cB HB hx111_2
       replace hx111_3 := cB HB hx111_3
       replace hx111_4 := cB HB hx111_4
       replace hx111_5 := cB HB hx111_5
       have HR111_3 := Aside0.mk hi111_3
       have HC111_3 := Aside0.mk hl111_3
       clear hi111_3 hl111_3
       have HR111_4 := Aside0.mk hi111_4
       have HC111_4 := Aside0.mk hl111_4
       clear hi111_4 hl111_4
       have HR111_5 := Aside0.mk hi111_5
       have HC111_5 := Aside0.mk hl111_5
       clear hi111_5 hl111_5
       go_wp2_with (first | ((with_reducible refine gate_callee (f := 25) rfl ?_); refine gl_ 23 Tryz.func25 (laws_szInode.calls k1 ((rd_T59 l0 x5_1).f0) ((rd_T59 l0 x5_1).f1) ((rd_T59 l0 x5_1).f2) _ _ ((rd_T59 l0 x5_1).f3) _ _ ((rd_T59 l0 x5_1).f4) _ _ ((rd_T59 l0 x5_1).f5) x1_1 t112 _ (kC HR111_3) HC111_3.out (kC HR111_4) HC111_4.out (kC HR111_5) HC111_5.out A6.out) ?_; rintro e w8 ⟨rfl, hb⟩; refine ⟨_, rfl, ?_⟩; replace HB := Aside0.mk (below_step oB hb)))
       go_ret
       exact ⟨oE, oB⟩
      ·have H' := Aside0.mk H
       clear H
       have p111 : (0 ≤ (x5_1 : Int)) = True := oT
       have q111 : (x5_1 < (l0.length : Int)) = True := oT
       obtain ⟨ad111, A111_3, c111_3, A111_4, c111_4, A111_5, c111_5, e111, hx111_0, hx111_1, hx111_2, hx111_3, hx111_4, hx111_5, hl111_3, hi111_3, hl111_4, hi111_4, hl111_5, hi111_5⟩ := at_T59 HR0.out x5_1 oa oa
       cases e111
       replace hx111_0 := cB HB hx111_0
       replace hx111_1 := cB HB hx111_1
       replace hx111_2 := cB HB hx111_2
       replace hx111_3 := cB HB hx111_3
       replace hx111_4 := cB HB hx111_4
       replace hx111_5 := cB HB hx111_5
       have HR111_3 := Aside0.mk hi111_3
       have HC111_3 := Aside0.mk hl111_3
       clear hi111_3 hl111_3
       have HR111_4 := Aside0.mk hi111_4
       have HC111_4 := Aside0.mk hl111_4
       clear hi111_4 hl111_4
       have HR111_5 := Aside0.mk hi111_5
       have HC111_5 := Aside0.mk hl111_5
       clear hi111_5 hl111_5
       go_wp2_with (first | ((with_reducible refine gate_callee (f := 25) rfl ?_); refine gl_ 23 Tryz.func25 (laws_szInode.calls k1 ((rd_T59 l0 x5_1).f0) ((rd_T59 l0 x5_1).f1) ((rd_T59 l0 x5_1).f2) _ _ ((rd_T59 l0 x5_1).f3) _ _ ((rd_T59 l0 x5_1).f4) _ _ ((rd_T59 l0 x5_1).f5) x1_1 t112 _ (kC HR111_3) HC111_3.out (kC HR111_4) HC111_4.out (kC HR111_5) HC111_5.out A6.out) ?_; rintro e w9 ⟨rfl, hb⟩; refine ⟨_, rfl, ?_⟩; replace HB := Aside0.mk (below_step oB hb)))
       go_roundg k1
       case measure => have := HK1.out; omega
       case rel => exact ⟨(t112), (wrap64 (x5_1 + 1)), oS, oS, H', ⟨by have := HK1.out; omega⟩, ⟨oB⟩⟩
     ·cases H
    ·obtain rfl := Option.some.inj H
     go_wp2
     go_ret
     exact ⟨oE, oB⟩

end Go.Proofs.YtolkhimbfegkkaaGreat.P
