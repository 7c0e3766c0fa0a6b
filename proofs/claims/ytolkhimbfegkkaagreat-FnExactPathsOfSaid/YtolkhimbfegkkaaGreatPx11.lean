-- By this session's own program (wip/myprint.py) out of the translation; Lean checks it.
import Derived.Test.YtolkhimbfegkkaaGreatPx0
import Derived.Test.YtolkhimbfegkkaaGreatPx3
import Derived.Test.YtolkhimbfegkkaaGreatPx4
import Derived.Test.YtolkhimbfegkkaaGreatPx5
import Derived.Test.YtolkhimbfegkkaaGreatPx6
import Derived.Test.YtolkhimbfegkkaaGreatPx7
import Derived.Test.YtolkhimbfegkkaaGreatPx8
namespace Go.Proofs.YtolkhimbfegkkaaGreat.P
open Go.RowKit Go.Proofs.YtolkhimbfegkkaaGreatW.PrintWords Go.Proofs.YtolkhimbfegkkaaGreatW.PrintLast Go.Proofs.YtolkhimbfegkkaaGreatW.PrintMore
attribute [local go_sem] max2_int min2_int max_two min_two max_three min_three max_four min_four   -- for this text's walks alone
set_option linter.unusedVariables false
set_option linter.unusedSimpArgs false

/-! ### spec_l3Ents: function 78 -/
def spec_l3Ents.l0 : Nat → List (S63) → Int → Option (Bool)
 | 0, _, _ => none
 | k + 1, x0, x3 => if x3 < (x0.length : Int) then (if 0 ≤ x3 then ((spec_NameOk.f k ((rd_T63 x0 x3).f0)).bind fun t119 => (if t119 = true then ((spec_l1In.f ((rd_T63 x0 x3).f1) 2 1000).bind fun t121 => (if t121 = true then (if x3 > 0 then (if 0 ≤ (wrap64 (x3 - 1)) then (if (wrap64 (x3 - 1)) < (x0.length : Int) then (if ((Op.bytesLess (((rd_T63 x0 (wrap64 (x3 - 1))).f0).toList) (((rd_T63 x0 x3).f0).toList)) = true) then (spec_l3Ents.l0 k x0 (wrap64 (x3 + 1))) else (some false)) else (none)) else (none)) else (spec_l3Ents.l0 k x0 (wrap64 (x3 + 1)))) else (some false))) else (some false))) else (none)) else (some (decide ((x0.length : Int) ≤ 10)))
def spec_l3Ents.f (k : Nat) (l0 : List (S63)) : Option (Bool) := spec_l3Ents.l0 k l0 0
set_option maxHeartbeats 8000000 in
set_option maxRecDepth 100000 in
theorem spec_l3Ents.calls (k : Nat) (A0 : Option Addr) (c0 : Nat) (l0 : List (S63)) (r : Bool) (w : World) (hr0 : Kd.C k63 w A0 l0.length l0) (hc0 : l0.length ≤ c0) (h : spec_l3Ents.f k l0 = some r) :
  Calls Tryz.prog 78 #[.slice A0 l0.length c0] w fun e w' => e = .returned (.bool r) ∧ Drawn0 w w' := by
 have HR0 := Aside0.mk hr0
 have HC0 := Aside0.mk hc0
 clear hr0 hc0
 unfold spec_l3Ents.f at h
 have H := h
 clear h
 have H' := Aside0.mk H
 clear H
 go_enter Tryz.func78, Tryz.ntmps78
 go_wp2
 repeat (go_quiet (fail); try go_wp2)
 go_loopg [3] k (fun kq v3 w' => ∃ (x3_1 : Int), v3 = .int .i64 x3_1 ∧ Aside0 (spec_l3Ents.l0 kq l0 x3_1 = some r) ∧ Aside0 (kq ≤ k) ∧ Drawn0 w w')
 case atStart => exact ⟨(0), oS, H', ⟨Nat.le_refl _⟩, oD⟩
 case round =>
  clear H'
  obtain ⟨x3_1, rfl, HA, HK1, ⟨m1, rfl⟩⟩ := hrel
  cases gk with
  | zero => exact absurd HA.out (by simp [spec_l3Ents.l0])
  | succ k1 =>
   have H := HA.out
   clear HA
   simp only [spec_l3Ents.l0] at H
   replace H := itD H
   rcases H with ⟨c2b0, H⟩ | ⟨c2b0, H⟩
   ·replace H := itD H
    rcases H with ⟨c3b0, H⟩ | ⟨c3b0, H⟩
    ·replace H := bA H
     obtain ⟨t119, A4, H⟩ := H
     try dsimp only at H
     replace H := itB H
     rcases H with ⟨rfl, H⟩ | ⟨rfl, H⟩
     ·replace H := bA H
      obtain ⟨t121, A6, H⟩ := H
      try dsimp only at H
      replace H := itB H
      rcases H with ⟨rfl, H⟩ | ⟨rfl, H⟩
      ·replace H := itG H
       rcases H with ⟨c8b0, H⟩ | ⟨c8b0, H⟩
       ·obtain ⟨ji9, hji9⟩ : ∃ j_ : Int, (wrap64 (x3_1 - 1)) = j_ := ⟨_, rfl⟩
        replace H : (if 0 ≤ (ji9) then (if (ji9) < (l0.length : Int) then (if ((Op.bytesLess (((rd_T63 l0 (ji9)).f0).toList) (((rd_T63 l0 x3_1).f0).toList)) = true) then (spec_l3Ents.l0 k1 l0 (wrap64 (x3_1 + 1))) else (some false)) else (none)) else (none)) = some r := by first | (rw [hji9] at H; exact H) | (simp only [hji9] at H ⊢; exact H)
        (try rw [hji9] at A4)
        (try rw [hji9] at A6)
        have hji9w : (IntKind.i64.wrap (x3_1 - 1)) = ji9 := (i64_w _).trans hji9
        replace H := itD H
        rcases H with ⟨c10b0, H⟩ | ⟨c10b0, H⟩
        ·replace H := itD H
         rcases H with ⟨c11b0, H⟩ | ⟨c11b0, H⟩
         ·by_cases c12 : ((Op.bytesLess (((rd_T63 l0 (ji9)).f0).toList) (((rd_T63 l0 x3_1).f0).toList)) = true)
          ·rw [if_pos c12] at H
           have c12b0 : (Op.bytesLess (((rd_T63 l0 (ji9)).f0).toList) (((rd_T63 l0 x3_1).f0).toList)) = true := c12
           clear c12
           have H' := Aside0.mk H
           clear H
           have p118 : (0 ≤ (x3_1 : Int)) = True := oT
           have q118 : (x3_1 < (l0.length : Int)) = True := oT
           obtain ⟨ad118, e118, hx118_0, hx118_1⟩ := at_T63 HR0.out x3_1 oa oa
           cases e118
           go_wp2_with (first | (go_at_call 95; (with_reducible refine (spec_NameOk.calls k1 ((rd_T63 l0 x3_1).f0) true _ A4.out).mono ?_); rintro e w' ⟨rfl, ⟨nd, rfl⟩⟩; have p120 : (0 ≤ (x3_1 : Int)) = True := oT; have q120 : (x3_1 < (l0.length : Int)) = True := oT; obtain ⟨ad120, e120, hx120_0, hx120_1⟩ := at_T63 HR0.out x3_1 oa oa; obtain rfl : ad118 = ad120 := (by injection e120)) | (go_at_call 46; (with_reducible refine (spec_l1In.calls ((rd_T63 l0 x3_1).f1) 2 1000 true _ A6.out).mono ?_); rintro e w' ⟨rfl, ⟨nd, rfl⟩⟩; have p122 : (0 ≤ ((ji9) : Int)) = True := oT; have q122 : ((ji9) < (l0.length : Int)) = True := oT; obtain ⟨ad122, e122, hx122_0, hx122_1⟩ := at_T63 HR0.out (ji9) oa oa; obtain rfl : ad118 = ad122 := (by injection e122); have p123 : (0 ≤ (x3_1 : Int)) = True := oT; have q123 : (x3_1 < (l0.length : Int)) = True := oT; obtain ⟨ad123, e123, hx123_0, hx123_1⟩ := at_T63 HR0.out x3_1 oa oa; obtain rfl : ad118 = ad123 := (by injection e123)))
           try (have p120 : 0 ≤ (x3_1 : Int) := oa; have q120 : x3_1 < (l0.length : Int) := oa; obtain ⟨ad120, e120, hx120_0, hx120_1⟩ := at_T63 HR0.out x3_1 p120 q120; obtain rfl : ad118 = ad120 := (by injection e120); replace p120 := eq_true p120; replace q120 := eq_true q120)
           try (have p122 : 0 ≤ ((ji9) : Int) := oa; have q122 : (ji9) < (l0.length : Int) := oa; obtain ⟨ad122, e122, hx122_0, hx122_1⟩ := at_T63 HR0.out (ji9) p122 q122; obtain rfl : ad118 = ad122 := (by injection e122); replace p122 := eq_true p122; replace q122 := eq_true q122; have p123 : 0 ≤ (x3_1 : Int) := oa; have q123 : x3_1 < (l0.length : Int) := oa; obtain ⟨ad123, e123, hx123_0, hx123_1⟩ := at_T63 HR0.out x3_1 p123 q123; obtain rfl : ad118 = ad123 := (by injection e123); replace p123 := eq_true p123; replace q123 := eq_true q123)
           repeat (go_quiet (first | (go_at_call 95; (with_reducible refine (spec_NameOk.calls k1 ((rd_T63 l0 x3_1).f0) true _ A4.out).mono ?_); rintro e w' ⟨rfl, ⟨nd, rfl⟩⟩; exact oQ) | (go_at_call 46; (with_reducible refine (spec_l1In.calls ((rd_T63 l0 x3_1).f1) 2 1000 true _ A6.out).mono ?_); rintro e w' ⟨rfl, ⟨nd, rfl⟩⟩; exact oQ)); try go_wp2_with (first | (go_at_call 95; (with_reducible refine (spec_NameOk.calls k1 ((rd_T63 l0 x3_1).f0) true _ A4.out).mono ?_); rintro e w' ⟨rfl, ⟨nd, rfl⟩⟩; have p120 : (0 ≤ (x3_1 : Int)) = True := oT; have q120 : (x3_1 < (l0.length : Int)) = True := oT; obtain ⟨ad120, e120, hx120_0, hx120_1⟩ := at_T63 HR0.out x3_1 oa oa; obtain rfl : ad118 = ad120 := (by injection e120)) | (go_at_call 46; (with_reducible refine (spec_l1In.calls ((rd_T63 l0 x3_1).f1) 2 1000 true _ A6.out).mono ?_); rintro e w' ⟨rfl, ⟨nd, rfl⟩⟩; have p122 : (0 ≤ ((ji9) : Int)) = True := oT; have q122 : ((ji9) < (l0.length : Int)) = True := oT; obtain ⟨ad122, e122, hx122_0, hx122_1⟩ := at_T63 HR0.out (ji9) oa oa; obtain rfl : ad118 = ad122 := (by injection e122); have p123 : (0 ≤ (x3_1 : Int)) = True := oT; have q123 : (x3_1 < (l0.length : Int)) = True := oT; obtain ⟨ad123, e123, hx123_0, hx123_1⟩ := at_T63 HR0.out x3_1 oa oa; obtain rfl : ad118 = ad123 := (by injection e123))))
           go_roundg k1
           case measure => have := HK1.out; omega
           case rel => exact ⟨(wrap64 (x3_1 + 1)), oS, H', ⟨by have := HK1.out; omega⟩, oD⟩
          ·rw [if_neg c12] at H
           have c12b0 : (Op.bytesLess (((rd_T63 l0 (ji9)).f0).toList) (((rd_T63 l0 x3_1).f0).toList)) = false := by simpa using c12
           clear c12
           obtain rfl := Option.some.inj H
           have p118 : (0 ≤ (x3_1 : Int)) = True := oT
           have q118 : (x3_1 < (l0.length : Int)) = True := oT
           obtain ⟨ad118, e118, hx118_0, hx118_1⟩ := at_T63 HR0.out x3_1 oa oa
           cases e118
           go_wp2_with (first | (go_at_call 95; (with_reducible refine (spec_NameOk.calls k1 ((rd_T63 l0 x3_1).f0) true _ A4.out).mono ?_); rintro e w' ⟨rfl, ⟨nd, rfl⟩⟩; have p120 : (0 ≤ (x3_1 : Int)) = True := oT; have q120 : (x3_1 < (l0.length : Int)) = True := oT; obtain ⟨ad120, e120, hx120_0, hx120_1⟩ := at_T63 HR0.out x3_1 oa oa; obtain rfl : ad118 = ad120 := (by injection e120)) | (go_at_call 46; (with_reducible refine (spec_l1In.calls ((rd_T63 l0 x3_1).f1) 2 1000 true _ A6.out).mono ?_); rintro e w' ⟨rfl, ⟨nd, rfl⟩⟩; have p122 : (0 ≤ ((ji9) : Int)) = True := oT; have q122 : ((ji9) < (l0.length : Int)) = True := oT; obtain ⟨ad122, e122, hx122_0, hx122_1⟩ := at_T63 HR0.out (ji9) oa oa; obtain rfl : ad118 = ad122 := (by injection e122); have p123 : (0 ≤ (x3_1 : Int)) = True := oT; have q123 : (x3_1 < (l0.length : Int)) = True := oT; obtain ⟨ad123, e123, hx123_0, hx123_1⟩ := at_T63 HR0.out x3_1 oa oa; obtain rfl : ad118 = ad123 := (by injection e123)))
           try (have p120 : 0 ≤ (x3_1 : Int) := oa; have q120 : x3_1 < (l0.length : Int) := oa; obtain ⟨ad120, e120, hx120_0, hx120_1⟩ := at_T63 HR0.out x3_1 p120 q120; obtain rfl : ad118 = ad120 := (by injection e120); replace p120 := eq_true p120; replace q120 := eq_true q120)
           try (have p122 : 0 ≤ ((ji9) : Int) := oa; have q122 : (ji9) < (l0.length : Int) := oa; obtain ⟨ad122, e122, hx122_0, hx122_1⟩ := at_T63 HR0.out (ji9) p122 q122; obtain rfl : ad118 = ad122 := (by injection e122); replace p122 := eq_true p122; replace q122 := eq_true q122; have p123 : 0 ≤ (x3_1 : Int) := oa; have q123 : x3_1 < (l0.length : Int) := oa; obtain ⟨ad123, e123, hx123_0, hx123_1⟩ := at_T63 HR0.out x3_1 p123 q123; obtain rfl : ad118 = ad123 := (by injection e123); replace p123 := eq_true p123; replace q123 := eq_true q123)
           repeat (go_quiet (first | (go_at_call 95; (with_reducible refine (spec_NameOk.calls k1 ((rd_T63 l0 x3_1).f0) true _ A4.out).mono ?_); rintro e w' ⟨rfl, ⟨nd, rfl⟩⟩; exact oQ) | (go_at_call 46; (with_reducible refine (spec_l1In.calls ((rd_T63 l0 x3_1).f1) 2 1000 true _ A6.out).mono ?_); rintro e w' ⟨rfl, ⟨nd, rfl⟩⟩; exact oQ)); try go_wp2_with (first | (go_at_call 95; (with_reducible refine (spec_NameOk.calls k1 ((rd_T63 l0 x3_1).f0) true _ A4.out).mono ?_); rintro e w' ⟨rfl, ⟨nd, rfl⟩⟩; have p120 : (0 ≤ (x3_1 : Int)) = True := oT; have q120 : (x3_1 < (l0.length : Int)) = True := oT; obtain ⟨ad120, e120, hx120_0, hx120_1⟩ := at_T63 HR0.out x3_1 oa oa; obtain rfl : ad118 = ad120 := (by injection e120)) | (go_at_call 46; (with_reducible refine (spec_l1In.calls ((rd_T63 l0 x3_1).f1) 2 1000 true _ A6.out).mono ?_); rintro e w' ⟨rfl, ⟨nd, rfl⟩⟩; have p122 : (0 ≤ ((ji9) : Int)) = True := oT; have q122 : ((ji9) < (l0.length : Int)) = True := oT; obtain ⟨ad122, e122, hx122_0, hx122_1⟩ := at_T63 HR0.out (ji9) oa oa; obtain rfl : ad118 = ad122 := (by injection e122); have p123 : (0 ≤ (x3_1 : Int)) = True := oT; have q123 : (x3_1 < (l0.length : Int)) = True := oT; obtain ⟨ad123, e123, hx123_0, hx123_1⟩ := at_T63 HR0.out x3_1 oa oa; obtain rfl : ad118 = ad123 := (by injection e123))))
           go_ret
           exact ⟨by first | rfl | (simp; done) | (simp only [← hji9] <;> (first | rfl | simp)) | (simp [*]; done), oD⟩
         ·cases H
        ·cases H
       ·have H' := Aside0.mk H
        clear H
        have p118 : (0 ≤ (x3_1 : Int)) = True := oT
        have q118 : (x3_1 < (l0.length : Int)) = True := oT
        obtain ⟨ad118, e118, hx118_0, hx118_1⟩ := at_T63 HR0.out x3_1 oa oa
        cases e118
        go_wp2_with (first | (go_at_call 95; (with_reducible refine (spec_NameOk.calls k1 ((rd_T63 l0 x3_1).f0) true _ A4.out).mono ?_); rintro e w' ⟨rfl, ⟨nd, rfl⟩⟩; have p120 : (0 ≤ (x3_1 : Int)) = True := oT; have q120 : (x3_1 < (l0.length : Int)) = True := oT; obtain ⟨ad120, e120, hx120_0, hx120_1⟩ := at_T63 HR0.out x3_1 oa oa; obtain rfl : ad118 = ad120 := (by injection e120)) | (go_at_call 46; (with_reducible refine (spec_l1In.calls ((rd_T63 l0 x3_1).f1) 2 1000 true _ A6.out).mono ?_); rintro e w' ⟨rfl, ⟨nd, rfl⟩⟩))
        try (have p120 : 0 ≤ (x3_1 : Int) := oa; have q120 : x3_1 < (l0.length : Int) := oa; obtain ⟨ad120, e120, hx120_0, hx120_1⟩ := at_T63 HR0.out x3_1 p120 q120; obtain rfl : ad118 = ad120 := (by injection e120); replace p120 := eq_true p120; replace q120 := eq_true q120)
        repeat (go_quiet (first | (go_at_call 95; (with_reducible refine (spec_NameOk.calls k1 ((rd_T63 l0 x3_1).f0) true _ A4.out).mono ?_); rintro e w' ⟨rfl, ⟨nd, rfl⟩⟩; exact oQ) | (go_at_call 46; (with_reducible refine (spec_l1In.calls ((rd_T63 l0 x3_1).f1) 2 1000 true _ A6.out).mono ?_); rintro e w' ⟨rfl, ⟨nd, rfl⟩⟩; exact oQ)); try go_wp2_with (first | (go_at_call 95; (with_reducible refine (spec_NameOk.calls k1 ((rd_T63 l0 x3_1).f0) true _ A4.out).mono ?_); rintro e w' ⟨rfl, ⟨nd, rfl⟩⟩; have p120 : (0 ≤ (x3_1 : Int)) = True := oT; have q120 : (x3_1 < (l0.length : Int)) = True := oT; obtain ⟨ad120, e120, hx120_0, hx120_1⟩ := at_T63 HR0.out x3_1 oa oa; obtain rfl : ad118 = ad120 := (by injection e120)) | (go_at_call 46; (with_reducible refine (spec_l1In.calls ((rd_T63 l0 x3_1).f1) 2 1000 true _ A6.out).mono ?_); rintro e w' ⟨rfl, ⟨nd, rfl⟩⟩)))
        go_roundg k1
        case measure => have := HK1.out; omega
        case rel => exact ⟨(wrap64 (x3_1 + 1)), oS, H', ⟨by have := HK1.out; omega⟩, oD⟩
      ·obtain rfl := Option.some.inj H
       have p118 : (0 ≤ (x3_1 : Int)) = True := oT
       have q118 : (x3_1 < (l0.length : Int)) = True := oT
       obtain ⟨ad118, e118, hx118_0, hx118_1⟩ := at_T63 HR0.out x3_1 oa oa
       cases e118
       go_wp2_with (first | (go_at_call 95; (with_reducible refine (spec_NameOk.calls k1 ((rd_T63 l0 x3_1).f0) true _ A4.out).mono ?_); rintro e w' ⟨rfl, ⟨nd, rfl⟩⟩; have p120 : (0 ≤ (x3_1 : Int)) = True := oT; have q120 : (x3_1 < (l0.length : Int)) = True := oT; obtain ⟨ad120, e120, hx120_0, hx120_1⟩ := at_T63 HR0.out x3_1 oa oa; obtain rfl : ad118 = ad120 := (by injection e120)) | (go_at_call 46; (with_reducible refine (spec_l1In.calls ((rd_T63 l0 x3_1).f1) 2 1000 false _ A6.out).mono ?_); rintro e w' ⟨rfl, ⟨nd, rfl⟩⟩))
       try (have p120 : 0 ≤ (x3_1 : Int) := oa; have q120 : x3_1 < (l0.length : Int) := oa; obtain ⟨ad120, e120, hx120_0, hx120_1⟩ := at_T63 HR0.out x3_1 p120 q120; obtain rfl : ad118 = ad120 := (by injection e120); replace p120 := eq_true p120; replace q120 := eq_true q120)
       repeat (go_quiet (first | (go_at_call 95; (with_reducible refine (spec_NameOk.calls k1 ((rd_T63 l0 x3_1).f0) true _ A4.out).mono ?_); rintro e w' ⟨rfl, ⟨nd, rfl⟩⟩; exact oQ) | (go_at_call 46; (with_reducible refine (spec_l1In.calls ((rd_T63 l0 x3_1).f1) 2 1000 false _ A6.out).mono ?_); rintro e w' ⟨rfl, ⟨nd, rfl⟩⟩; exact oQ)); try go_wp2_with (first | (go_at_call 95; (with_reducible refine (spec_NameOk.calls k1 ((rd_T63 l0 x3_1).f0) true _ A4.out).mono ?_); rintro e w' ⟨rfl, ⟨nd, rfl⟩⟩; have p120 : (0 ≤ (x3_1 : Int)) = True := oT; have q120 : (x3_1 < (l0.length : Int)) = True := oT; obtain ⟨ad120, e120, hx120_0, hx120_1⟩ := at_T63 HR0.out x3_1 oa oa; obtain rfl : ad118 = ad120 := (by injection e120)) | (go_at_call 46; (with_reducible refine (spec_l1In.calls ((rd_T63 l0 x3_1).f1) 2 1000 false _ A6.out).mono ?_); rintro e w' ⟨rfl, ⟨nd, rfl⟩⟩)))
       go_ret
       exact ⟨oS, oD⟩
     ·obtain rfl := Option.some.inj H
      have p118 : (0 ≤ (x3_1 : Int)) = True := oT
      have q118 : (x3_1 < (l0.length : Int)) = True := oT
      obtain ⟨ad118, e118, hx118_0, hx118_1⟩ := at_T63 HR0.out x3_1 oa oa
      cases e118
      go_wp2_with (first | (go_at_call 95; (with_reducible refine (spec_NameOk.calls k1 ((rd_T63 l0 x3_1).f0) false _ A4.out).mono ?_); rintro e w' ⟨rfl, ⟨nd, rfl⟩⟩))
      repeat (go_quiet (first | (go_at_call 95; (with_reducible refine (spec_NameOk.calls k1 ((rd_T63 l0 x3_1).f0) false _ A4.out).mono ?_); rintro e w' ⟨rfl, ⟨nd, rfl⟩⟩; exact oQ)); try go_wp2_with (first | (go_at_call 95; (with_reducible refine (spec_NameOk.calls k1 ((rd_T63 l0 x3_1).f0) false _ A4.out).mono ?_); rintro e w' ⟨rfl, ⟨nd, rfl⟩⟩)))
      go_ret
      exact ⟨oS, oD⟩
    ·cases H
   ·obtain rfl := Option.some.inj H
    go_wp2
    repeat (go_quiet (fail); try go_wp2)
    go_ret
    exact ⟨oS, oD⟩

/-! ### spec_l3Attrs: function 79 -/
def spec_l3Attrs.l0 : Nat → List (S87) → Int → Option (Bool)
 | 0, _, _ => none
 | k + 1, x0, x3 => if x3 < (x0.length : Int) then (if 0 ≤ x3 then ((spec_NameOk.f k ((rd_T87 x0 x3).f0)).bind fun t125 => (if t125 = true then ((spec_l1In.f (((rd_T87 x0 x3).f1).size : Int) 1 16).bind fun t127 => (if t127 = true then (if x3 > 0 then (if 0 ≤ (wrap64 (x3 - 1)) then (if (wrap64 (x3 - 1)) < (x0.length : Int) then (if ((Op.bytesLess (((rd_T87 x0 (wrap64 (x3 - 1))).f0).toList) (((rd_T87 x0 x3).f0).toList)) = true) then (spec_l3Attrs.l0 k x0 (wrap64 (x3 + 1))) else (some false)) else (none)) else (none)) else (spec_l3Attrs.l0 k x0 (wrap64 (x3 + 1)))) else (some false))) else (some false))) else (none)) else (some (decide ((x0.length : Int) ≤ 4)))
def spec_l3Attrs.f (k : Nat) (l0 : List (S87)) : Option (Bool) := spec_l3Attrs.l0 k l0 0
set_option maxHeartbeats 8000000 in
set_option maxRecDepth 100000 in
theorem spec_l3Attrs.calls (k : Nat) (A0 : Option Addr) (c0 : Nat) (l0 : List (S87)) (r : Bool) (w : World) (hr0 : Kd.C k87 w A0 l0.length l0) (hc0 : l0.length ≤ c0) (h : spec_l3Attrs.f k l0 = some r) :
  Calls Tryz.prog 79 #[.slice A0 l0.length c0] w fun e w' => e = .returned (.bool r) ∧ Drawn0 w w' := by
 have HR0 := Aside0.mk hr0
 have HC0 := Aside0.mk hc0
 clear hr0 hc0
 unfold spec_l3Attrs.f at h
 have H := h
 clear h
 have H' := Aside0.mk H
 clear H
 go_enter Tryz.func79, Tryz.ntmps79
 go_wp2
 repeat (go_quiet (fail); try go_wp2)
 go_loopg [3] k (fun kq v3 w' => ∃ (x3_1 : Int), v3 = .int .i64 x3_1 ∧ Aside0 (spec_l3Attrs.l0 kq l0 x3_1 = some r) ∧ Aside0 (kq ≤ k) ∧ Drawn0 w w')
 case atStart => exact ⟨(0), oS, H', ⟨Nat.le_refl _⟩, oD⟩
 case round =>
  clear H'
  obtain ⟨x3_1, rfl, HA, HK1, ⟨m1, rfl⟩⟩ := hrel
  cases gk with
  | zero => exact absurd HA.out (by simp [spec_l3Attrs.l0])
  | succ k1 =>
   have H := HA.out
   clear HA
   simp only [spec_l3Attrs.l0] at H
   replace H := itD H
   rcases H with ⟨c2b0, H⟩ | ⟨c2b0, H⟩
   ·replace H := itD H
    rcases H with ⟨c3b0, H⟩ | ⟨c3b0, H⟩
    ·replace H := bA H
     obtain ⟨t125, A4, H⟩ := H
     try dsimp only at H
     replace H := itB H
     rcases H with ⟨rfl, H⟩ | ⟨rfl, H⟩
     ·replace H := bA H
      obtain ⟨t127, A6, H⟩ := H
      try dsimp only at H
      replace H := itB H
      rcases H with ⟨rfl, H⟩ | ⟨rfl, H⟩
      ·replace H := itG H
       rcases H with ⟨c8b0, H⟩ | ⟨c8b0, H⟩
       ·obtain ⟨ji9, hji9⟩ : ∃ j_ : Int, (wrap64 (x3_1 - 1)) = j_ := ⟨_, rfl⟩
        replace H : (if 0 ≤ (ji9) then (if (ji9) < (l0.length : Int) then (if ((Op.bytesLess (((rd_T87 l0 (ji9)).f0).toList) (((rd_T87 l0 x3_1).f0).toList)) = true) then (spec_l3Attrs.l0 k1 l0 (wrap64 (x3_1 + 1))) else (some false)) else (none)) else (none)) = some r := by first | (rw [hji9] at H; exact H) | (simp only [hji9] at H ⊢; exact H)
        (try rw [hji9] at A4)
        (try rw [hji9] at A6)
        have hji9w : (IntKind.i64.wrap (x3_1 - 1)) = ji9 := (i64_w _).trans hji9
        replace H := itD H
        rcases H with ⟨c10b0, H⟩ | ⟨c10b0, H⟩
        ·replace H := itD H
         rcases H with ⟨c11b0, H⟩ | ⟨c11b0, H⟩
         ·by_cases c12 : ((Op.bytesLess (((rd_T87 l0 (ji9)).f0).toList) (((rd_T87 l0 x3_1).f0).toList)) = true)
          ·rw [if_pos c12] at H
           have c12b0 : (Op.bytesLess (((rd_T87 l0 (ji9)).f0).toList) (((rd_T87 l0 x3_1).f0).toList)) = true := c12
           clear c12
           have H' := Aside0.mk H
           clear H
           have p124 : (0 ≤ (x3_1 : Int)) = True := oT
           have q124 : (x3_1 < (l0.length : Int)) = True := oT
           obtain ⟨ad124, e124, hx124_0, hx124_1⟩ := at_T87 HR0.out x3_1 oa oa
           cases e124
           go_wp2_with (first | (go_at_call 95; (with_reducible refine (spec_NameOk.calls k1 ((rd_T87 l0 x3_1).f0) true _ A4.out).mono ?_); rintro e w' ⟨rfl, ⟨nd, rfl⟩⟩; have p126 : (0 ≤ (x3_1 : Int)) = True := oT; have q126 : (x3_1 < (l0.length : Int)) = True := oT; obtain ⟨ad126, e126, hx126_0, hx126_1⟩ := at_T87 HR0.out x3_1 oa oa; obtain rfl : ad124 = ad126 := (by injection e126)) | (go_at_call 46; (with_reducible refine (spec_l1In.calls (((rd_T87 l0 x3_1).f1).size : Int) 1 16 true _ A6.out).mono ?_); rintro e w' ⟨rfl, ⟨nd, rfl⟩⟩; have p128 : (0 ≤ ((ji9) : Int)) = True := oT; have q128 : ((ji9) < (l0.length : Int)) = True := oT; obtain ⟨ad128, e128, hx128_0, hx128_1⟩ := at_T87 HR0.out (ji9) oa oa; obtain rfl : ad124 = ad128 := (by injection e128); have p129 : (0 ≤ (x3_1 : Int)) = True := oT; have q129 : (x3_1 < (l0.length : Int)) = True := oT; obtain ⟨ad129, e129, hx129_0, hx129_1⟩ := at_T87 HR0.out x3_1 oa oa; obtain rfl : ad124 = ad129 := (by injection e129)))
           try (have p126 : 0 ≤ (x3_1 : Int) := oa; have q126 : x3_1 < (l0.length : Int) := oa; obtain ⟨ad126, e126, hx126_0, hx126_1⟩ := at_T87 HR0.out x3_1 p126 q126; obtain rfl : ad124 = ad126 := (by injection e126); replace p126 := eq_true p126; replace q126 := eq_true q126)
           try (have p128 : 0 ≤ ((ji9) : Int) := oa; have q128 : (ji9) < (l0.length : Int) := oa; obtain ⟨ad128, e128, hx128_0, hx128_1⟩ := at_T87 HR0.out (ji9) p128 q128; obtain rfl : ad124 = ad128 := (by injection e128); replace p128 := eq_true p128; replace q128 := eq_true q128; have p129 : 0 ≤ (x3_1 : Int) := oa; have q129 : x3_1 < (l0.length : Int) := oa; obtain ⟨ad129, e129, hx129_0, hx129_1⟩ := at_T87 HR0.out x3_1 p129 q129; obtain rfl : ad124 = ad129 := (by injection e129); replace p129 := eq_true p129; replace q129 := eq_true q129)
           repeat (go_quiet (first | (go_at_call 95; (with_reducible refine (spec_NameOk.calls k1 ((rd_T87 l0 x3_1).f0) true _ A4.out).mono ?_); rintro e w' ⟨rfl, ⟨nd, rfl⟩⟩; exact oQ) | (go_at_call 46; (with_reducible refine (spec_l1In.calls (((rd_T87 l0 x3_1).f1).size : Int) 1 16 true _ A6.out).mono ?_); rintro e w' ⟨rfl, ⟨nd, rfl⟩⟩; exact oQ)); try go_wp2_with (first | (go_at_call 95; (with_reducible refine (spec_NameOk.calls k1 ((rd_T87 l0 x3_1).f0) true _ A4.out).mono ?_); rintro e w' ⟨rfl, ⟨nd, rfl⟩⟩; have p126 : (0 ≤ (x3_1 : Int)) = True := oT; have q126 : (x3_1 < (l0.length : Int)) = True := oT; obtain ⟨ad126, e126, hx126_0, hx126_1⟩ := at_T87 HR0.out x3_1 oa oa; obtain rfl : ad124 = ad126 := (by injection e126)) | (go_at_call 46; (with_reducible refine (spec_l1In.calls (((rd_T87 l0 x3_1).f1).size : Int) 1 16 true _ A6.out).mono ?_); rintro e w' ⟨rfl, ⟨nd, rfl⟩⟩; have p128 : (0 ≤ ((ji9) : Int)) = True := oT; have q128 : ((ji9) < (l0.length : Int)) = True := oT; obtain ⟨ad128, e128, hx128_0, hx128_1⟩ := at_T87 HR0.out (ji9) oa oa; obtain rfl : ad124 = ad128 := (by injection e128); have p129 : (0 ≤ (x3_1 : Int)) = True := oT; have q129 : (x3_1 < (l0.length : Int)) = True := oT; obtain ⟨ad129, e129, hx129_0, hx129_1⟩ := at_T87 HR0.out x3_1 oa oa; obtain rfl : ad124 = ad129 := (by injection e129))))
           go_roundg k1
           case measure => have := HK1.out; omega
           case rel => exact ⟨(wrap64 (x3_1 + 1)), oS, H', ⟨by have := HK1.out; omega⟩, oD⟩
          ·rw [if_neg c12] at H
           have c12b0 : (Op.bytesLess (((rd_T87 l0 (ji9)).f0).toList) (((rd_T87 l0 x3_1).f0).toList)) = false := by simpa using c12
           clear c12
           obtain rfl := Option.some.inj H
           have p124 : (0 ≤ (x3_1 : Int)) = True := oT
           have q124 : (x3_1 < (l0.length : Int)) = True := oT
           obtain ⟨ad124, e124, hx124_0, hx124_1⟩ := at_T87 HR0.out x3_1 oa oa
           cases e124
           go_wp2_with (first | (go_at_call 95; (with_reducible refine (spec_NameOk.calls k1 ((rd_T87 l0 x3_1).f0) true _ A4.out).mono ?_); rintro e w' ⟨rfl, ⟨nd, rfl⟩⟩; have p126 : (0 ≤ (x3_1 : Int)) = True := oT; have q126 : (x3_1 < (l0.length : Int)) = True := oT; obtain ⟨ad126, e126, hx126_0, hx126_1⟩ := at_T87 HR0.out x3_1 oa oa; obtain rfl : ad124 = ad126 := (by injection e126)) | (go_at_call 46; (with_reducible refine (spec_l1In.calls (((rd_T87 l0 x3_1).f1).size : Int) 1 16 true _ A6.out).mono ?_); rintro e w' ⟨rfl, ⟨nd, rfl⟩⟩; have p128 : (0 ≤ ((ji9) : Int)) = True := oT; have q128 : ((ji9) < (l0.length : Int)) = True := oT; obtain ⟨ad128, e128, hx128_0, hx128_1⟩ := at_T87 HR0.out (ji9) oa oa; obtain rfl : ad124 = ad128 := (by injection e128); have p129 : (0 ≤ (x3_1 : Int)) = True := oT; have q129 : (x3_1 < (l0.length : Int)) = True := oT; obtain ⟨ad129, e129, hx129_0, hx129_1⟩ := at_T87 HR0.out x3_1 oa oa; obtain rfl : ad124 = ad129 := (by injection e129)))
           try (have p126 : 0 ≤ (x3_1 : Int) := oa; have q126 : x3_1 < (l0.length : Int) := oa; obtain ⟨ad126, e126, hx126_0, hx126_1⟩ := at_T87 HR0.out x3_1 p126 q126; obtain rfl : ad124 = ad126 := (by injection e126); replace p126 := eq_true p126; replace q126 := eq_true q126)
           try (have p128 : 0 ≤ ((ji9) : Int) := oa; have q128 : (ji9) < (l0.length : Int) := oa; obtain ⟨ad128, e128, hx128_0, hx128_1⟩ := at_T87 HR0.out (ji9) p128 q128; obtain rfl : ad124 = ad128 := (by injection e128); replace p128 := eq_true p128; replace q128 := eq_true q128; have p129 : 0 ≤ (x3_1 : Int) := oa; have q129 : x3_1 < (l0.length : Int) := oa; obtain ⟨ad129, e129, hx129_0, hx129_1⟩ := at_T87 HR0.out x3_1 p129 q129; obtain rfl : ad124 = ad129 := (by injection e129); replace p129 := eq_true p129; replace q129 := eq_true q129)
           repeat (go_quiet (first | (go_at_call 95; (with_reducible refine (spec_NameOk.calls k1 ((rd_T87 l0 x3_1).f0) true _ A4.out).mono ?_); rintro e w' ⟨rfl, ⟨nd, rfl⟩⟩; exact oQ) | (go_at_call 46; (with_reducible refine (spec_l1In.calls (((rd_T87 l0 x3_1).f1).size : Int) 1 16 true _ A6.out).mono ?_); rintro e w' ⟨rfl, ⟨nd, rfl⟩⟩; exact oQ)); try go_wp2_with (first | (go_at_call 95; (with_reducible refine (spec_NameOk.calls k1 ((rd_T87 l0 x3_1).f0) true _ A4.out).mono ?_); rintro e w' ⟨rfl, ⟨nd, rfl⟩⟩; have p126 : (0 ≤ (x3_1 : Int)) = True := oT; have q126 : (x3_1 < (l0.length : Int)) = True := oT; obtain ⟨ad126, e126, hx126_0, hx126_1⟩ := at_T87 HR0.out x3_1 oa oa; obtain rfl : ad124 = ad126 := (by injection e126)) | (go_at_call 46; (with_reducible refine (spec_l1In.calls (((rd_T87 l0 x3_1).f1).size : Int) 1 16 true _ A6.out).mono ?_); rintro e w' ⟨rfl, ⟨nd, rfl⟩⟩; have p128 : (0 ≤ ((ji9) : Int)) = True := oT; have q128 : ((ji9) < (l0.length : Int)) = True := oT; obtain ⟨ad128, e128, hx128_0, hx128_1⟩ := at_T87 HR0.out (ji9) oa oa; obtain rfl : ad124 = ad128 := (by injection e128); have p129 : (0 ≤ (x3_1 : Int)) = True := oT; have q129 : (x3_1 < (l0.length : Int)) = True := oT; obtain ⟨ad129, e129, hx129_0, hx129_1⟩ := at_T87 HR0.out x3_1 oa oa; obtain rfl : ad124 = ad129 := (by injection e129))))
           go_ret
           exact ⟨by first | rfl | (simp; done) | (simp only [← hji9] <;> (first | rfl | simp)) | (simp [*]; done), oD⟩
         ·cases H
        ·cases H
       ·have H' := Aside0.mk H
        clear H
        have p124 : (0 ≤ (x3_1 : Int)) = True := oT
        have q124 : (x3_1 < (l0.length : Int)) = True := oT
        obtain ⟨ad124, e124, hx124_0, hx124_1⟩ := at_T87 HR0.out x3_1 oa oa
        cases e124
        go_wp2_with (first | (go_at_call 95; (with_reducible refine (spec_NameOk.calls k1 ((rd_T87 l0 x3_1).f0) true _ A4.out).mono ?_); rintro e w' ⟨rfl, ⟨nd, rfl⟩⟩; have p126 : (0 ≤ (x3_1 : Int)) = True := oT; have q126 : (x3_1 < (l0.length : Int)) = True := oT; obtain ⟨ad126, e126, hx126_0, hx126_1⟩ := at_T87 HR0.out x3_1 oa oa; obtain rfl : ad124 = ad126 := (by injection e126)) | (go_at_call 46; (with_reducible refine (spec_l1In.calls (((rd_T87 l0 x3_1).f1).size : Int) 1 16 true _ A6.out).mono ?_); rintro e w' ⟨rfl, ⟨nd, rfl⟩⟩))
        try (have p126 : 0 ≤ (x3_1 : Int) := oa; have q126 : x3_1 < (l0.length : Int) := oa; obtain ⟨ad126, e126, hx126_0, hx126_1⟩ := at_T87 HR0.out x3_1 p126 q126; obtain rfl : ad124 = ad126 := (by injection e126); replace p126 := eq_true p126; replace q126 := eq_true q126)
        repeat (go_quiet (first | (go_at_call 95; (with_reducible refine (spec_NameOk.calls k1 ((rd_T87 l0 x3_1).f0) true _ A4.out).mono ?_); rintro e w' ⟨rfl, ⟨nd, rfl⟩⟩; exact oQ) | (go_at_call 46; (with_reducible refine (spec_l1In.calls (((rd_T87 l0 x3_1).f1).size : Int) 1 16 true _ A6.out).mono ?_); rintro e w' ⟨rfl, ⟨nd, rfl⟩⟩; exact oQ)); try go_wp2_with (first | (go_at_call 95; (with_reducible refine (spec_NameOk.calls k1 ((rd_T87 l0 x3_1).f0) true _ A4.out).mono ?_); rintro e w' ⟨rfl, ⟨nd, rfl⟩⟩; have p126 : (0 ≤ (x3_1 : Int)) = True := oT; have q126 : (x3_1 < (l0.length : Int)) = True := oT; obtain ⟨ad126, e126, hx126_0, hx126_1⟩ := at_T87 HR0.out x3_1 oa oa; obtain rfl : ad124 = ad126 := (by injection e126)) | (go_at_call 46; (with_reducible refine (spec_l1In.calls (((rd_T87 l0 x3_1).f1).size : Int) 1 16 true _ A6.out).mono ?_); rintro e w' ⟨rfl, ⟨nd, rfl⟩⟩)))
        go_roundg k1
        case measure => have := HK1.out; omega
        case rel => exact ⟨(wrap64 (x3_1 + 1)), oS, H', ⟨by have := HK1.out; omega⟩, oD⟩
      ·obtain rfl := Option.some.inj H
       have p124 : (0 ≤ (x3_1 : Int)) = True := oT
       have q124 : (x3_1 < (l0.length : Int)) = True := oT
       obtain ⟨ad124, e124, hx124_0, hx124_1⟩ := at_T87 HR0.out x3_1 oa oa
       cases e124
       go_wp2_with (first | (go_at_call 95; (with_reducible refine (spec_NameOk.calls k1 ((rd_T87 l0 x3_1).f0) true _ A4.out).mono ?_); rintro e w' ⟨rfl, ⟨nd, rfl⟩⟩; have p126 : (0 ≤ (x3_1 : Int)) = True := oT; have q126 : (x3_1 < (l0.length : Int)) = True := oT; obtain ⟨ad126, e126, hx126_0, hx126_1⟩ := at_T87 HR0.out x3_1 oa oa; obtain rfl : ad124 = ad126 := (by injection e126)) | (go_at_call 46; (with_reducible refine (spec_l1In.calls (((rd_T87 l0 x3_1).f1).size : Int) 1 16 false _ A6.out).mono ?_); rintro e w' ⟨rfl, ⟨nd, rfl⟩⟩))
       try (have p126 : 0 ≤ (x3_1 : Int) := oa; have q126 : x3_1 < (l0.length : Int) := oa; obtain ⟨ad126, e126, hx126_0, hx126_1⟩ := at_T87 HR0.out x3_1 p126 q126; obtain rfl : ad124 = ad126 := (by injection e126); replace p126 := eq_true p126; replace q126 := eq_true q126)
       repeat (go_quiet (first | (go_at_call 95; (with_reducible refine (spec_NameOk.calls k1 ((rd_T87 l0 x3_1).f0) true _ A4.out).mono ?_); rintro e w' ⟨rfl, ⟨nd, rfl⟩⟩; exact oQ) | (go_at_call 46; (with_reducible refine (spec_l1In.calls (((rd_T87 l0 x3_1).f1).size : Int) 1 16 false _ A6.out).mono ?_); rintro e w' ⟨rfl, ⟨nd, rfl⟩⟩; exact oQ)); try go_wp2_with (first | (go_at_call 95; (with_reducible refine (spec_NameOk.calls k1 ((rd_T87 l0 x3_1).f0) true _ A4.out).mono ?_); rintro e w' ⟨rfl, ⟨nd, rfl⟩⟩; have p126 : (0 ≤ (x3_1 : Int)) = True := oT; have q126 : (x3_1 < (l0.length : Int)) = True := oT; obtain ⟨ad126, e126, hx126_0, hx126_1⟩ := at_T87 HR0.out x3_1 oa oa; obtain rfl : ad124 = ad126 := (by injection e126)) | (go_at_call 46; (with_reducible refine (spec_l1In.calls (((rd_T87 l0 x3_1).f1).size : Int) 1 16 false _ A6.out).mono ?_); rintro e w' ⟨rfl, ⟨nd, rfl⟩⟩)))
       go_ret
       exact ⟨oS, oD⟩
     ·obtain rfl := Option.some.inj H
      have p124 : (0 ≤ (x3_1 : Int)) = True := oT
      have q124 : (x3_1 < (l0.length : Int)) = True := oT
      obtain ⟨ad124, e124, hx124_0, hx124_1⟩ := at_T87 HR0.out x3_1 oa oa
      cases e124
      go_wp2_with (first | (go_at_call 95; (with_reducible refine (spec_NameOk.calls k1 ((rd_T87 l0 x3_1).f0) false _ A4.out).mono ?_); rintro e w' ⟨rfl, ⟨nd, rfl⟩⟩))
      repeat (go_quiet (first | (go_at_call 95; (with_reducible refine (spec_NameOk.calls k1 ((rd_T87 l0 x3_1).f0) false _ A4.out).mono ?_); rintro e w' ⟨rfl, ⟨nd, rfl⟩⟩; exact oQ)); try go_wp2_with (first | (go_at_call 95; (with_reducible refine (spec_NameOk.calls k1 ((rd_T87 l0 x3_1).f0) false _ A4.out).mono ?_); rintro e w' ⟨rfl, ⟨nd, rfl⟩⟩)))
      go_ret
      exact ⟨oS, oD⟩
    ·cases H
   ·obtain rfl := Option.some.inj H
    go_wp2
    repeat (go_quiet (fail); try go_wp2)
    go_ret
    exact ⟨oS, oD⟩

/-! ### spec_l7Paths: function 15 -/
def ty9 (g : Nat) (w : World) (k : Nat) : Prop := k = g ∨ ∃ cells, w.heap[k]? = some (.cells cells 9 (0, 0))
theorem kt_then {g : Nat} {w W W2 : World} (h : Kept w W (ty9 g w)) (k : Kept W W2 (ty9 g W)) : Kept w W2 (ty9 g w) :=
 ⟨Nat.le_trans h.1 k.1, fun i hi hn => (k.2 i (Nat.lt_of_lt_of_le hi h.1) (fun h2 => hn (by
  rcases h2 with h2 | ⟨cells, h2⟩
  ·exact .inl h2
  ·exact .inr ⟨cells, by rw [← h.2 i hi hn]; exact h2⟩))).trans (h.2 i hi hn)⟩
theorem kt_grown {g : Nat} {W W2 : World} {base : Nat} {ok : Nat → Prop} {v : Value} {xs : List ByteArray} (ho : Kd.R Kd.string 9 W base ok v xs) (hg : W.grownBy W2 v.ownBlock) : Kept W W2 (ty9 g W) :=
 ⟨hg.size, fun i hi hn => hg.block i hi (fun he => hn (.inr (Kd.R_typed ho i he.symm)))⟩
theorem kt_set (g j : Nat) (W : World) (u : Value) : Kept W (W.setCell ⟨g, j, none⟩ u) (ty9 g W) := (Kept.refl W _).setCell (.inl (.inl rfl)) u
theorem kt_row {α : Type} {d : Kd α} {e base g : Nat} {ok : Nat → Prop} {v : Value} {xs : List α} {w w' : World} {cs : Array Value} (h : Kd.R d e w base ok v xs) (hb : w.heap[g]? = some (.cells cs 26 (0, 0))) (hk : Kept w w' (ty9 g w)) (h26 : ∀ q, q ∈ e :: d.E → q ≠ 26 := by decide) (h9 : ∀ q, q ∈ e :: d.E → q ≠ 9 := by decide) : Kd.R d e w' base ok v xs := by
 refine Kd.R_mono (Kd.R_kept (Kd.R_bound (Kd.R_types h hb h26)) hk ?_) (fun _ hk => hk.1.1)
 rintro k ⟨⟨_, h2⟩, _, _, q, hq, cells, hc⟩ (h3 | ⟨c2, h3⟩)
 ·exact h2 h3
 ·rw [hc] at h3
  injection h3 with h3
  injection h3 with _ h3
  exact h9 q hq h3
theorem kt_box {g gb : Nat} {t : TypeId} {cs cs2 : Array Value} {w w' : World} (h : Aside0 (w.heap[gb]? = some (.cells cs t (0, 0)))) (hb : Aside0 (w.heap[g]? = some (.cells cs2 26 (0, 0)))) (hk : Kept w w' (ty9 g w)) (h26 : t ≠ 26 := by decide) (h9 : t ≠ 9 := by decide) : Aside0 (w'.heap[gb]? = some (.cells cs t (0, 0))) := by
 refine ⟨blk_kept h.out hk ?_⟩
 rintro (h3 | ⟨c2, h3⟩)
 ·exact blk_ne h.out hb.out h26 h3
 ·rw [h.out] at h3
  injection h3 with h3
  injection h3 with _ h3
  exact h9 h3
mutual
def spec_l7Paths.l0 : Nat → List (S47) → Int → ByteArray → List (S63) → Int → List ByteArray → Option (List ByteArray)
 | 0, _, _, _, _, _, _ => none
 | k + 1, l, nx, x2, xs, x10, out => if x10 < (xs.length : Int) then (if x2.size + 1 ≤ 9223372036854775807 then (if 0 ≤ x10 then (if (x2 ++ (⟨#[47]⟩ : ByteArray)).size + ((rd_T63 xs x10).f0).size ≤ 9223372036854775807 then (if out.length < 8796093022208 then ((spec_l7Paths.f k l nx ((rd_T63 xs x10).f1) ((x2 ++ (⟨#[47]⟩ : ByteArray)) ++ ((rd_T63 xs x10).f0)) (out ++ [(x2 ++ (⟨#[47]⟩ : ByteArray)) ++ ((rd_T63 xs x10).f0)])).bind fun y => spec_l7Paths.l0 k l nx x2 xs (wrap64 (x10 + 1)) y) else (none)) else (none)) else (none)) else (none)) else (some out)
def spec_l7Paths.f : Nat → List (S47) → Int → Int → ByteArray → List ByteArray → Option (List ByteArray)
 | 0, _, _, _, _, _ => none
 | k + 1, l0_0, a0_1, a1, a2, out => (spec_InodeAt.f k l0_0 a0_1 a1).bind fun bt254 => (spec_l7Paths.l0 k l0_0 a0_1 a2 bt254.2.2.2.2.1 0 out)
end
def spec_l7Paths.T7 : Bool × List (List Nat × List Nat) := (true, [([], []), ([], []), ([1], [1]), ([], []), ([2, 3], [2, 3]), ([4], [4]), ([5], [5]), ([], []), ([], []), ([0, 6, 7, 8], [0, 6, 7, 8])])
def spec_l7Paths.B7 : List Nat := [0, 0, 2, 0, 14, 30, 62, 0, 0, 511]
theorem spec_l7Paths.tab7 : rtab .any (opsOf Tryz.f15 7) = spec_l7Paths.T7 := by kernel_rfl
theorem spec_l7Paths.bits7 : waitsOk spec_l7Paths.T7.2 spec_l7Paths.B7 = true := by kernel_rfl
set_option maxHeartbeats 8000000 in
set_option maxRecDepth 100000 in
theorem spec_l7Paths.calls (k : Nat) : ∀ (A0_0 : Option Addr) (c0_0 : Nat) (l0_0 : List (S47)) (a0_1 : Int) (a1 : Int) (a2 : ByteArray) (g : Nat) (u : Value) (xs r : List ByteArray) (w wS : World) (hr0_0 : Kd.C k47 w A0_0 l0_0.length l0_0) (hc0_0 : l0_0.length ≤ c0_0) (hB0 : Below w.heap.size w wS) (hg0 : w.heap.size ≤ g) (hbx : wS.heap[g]? = some (.cells #[u] 26 (0, 0))) (hv0 : Kd.R Kd.string 9 wS w.heap.size (fun _ => True) u xs) (h : spec_l7Paths.f k l0_0 a0_1 a1 a2 xs = some r),
  Calls Tryz.prog 15 #[.agg #[.slice A0_0 l0_0.length c0_0, .int .i64 a0_1], .int .i64 a1, .string a2, .pointer (some ⟨g, 0, none⟩)] wS fun e w' => e = .returned (.tuple #[]) ∧ ∃ v : Value, w'.heap[g]? = some (.cells #[v] 26 (0, 0)) ∧ Kd.R Kd.string 9 w' w.heap.size (fun _ => True) v r ∧ Kept wS w' (ty9 g wS) ∧ Below w.heap.size w w' := by
 induction k using Nat.strongRecOn with
 | _ k ih =>
 intro A0_0 c0_0 l0_0 a0_1 a1 a2 g u xs r w wS hr0_0 hc0_0 hB0 hg0 hbx hv0 h
 cases k with
 | zero => exact absurd h (by simp [spec_l7Paths.f])
 | succ k =>
 simp only [spec_l7Paths.f] at h
 have hu30 := Tryz.underlying30
 have hu47 := Tryz.underlying47
 have hu26 := Tryz.underlying26
 have HR0_0 := Aside0.mk hr0_0
 have HC0_0 := Aside0.mk hc0_0
 clear hr0_0 hc0_0
 have HB := Aside0.mk hB0
 have GWg := Aside0.mk hg0
 have BG := Aside0.mk hbx
 have HV := Aside0.mk hv0
 have HK := Aside0.mk (Kept.refl wS (ty9 g wS))
 clear hB0 hg0 hbx hv0
 have H : ((spec_InodeAt.f k l0_0 a0_1 a1).bind fun bt254 => (spec_l7Paths.l0 k l0_0 a0_1 a2 bt254.2.2.2.2.1 0 xs)) = some r := h
 clear h
 replace H := bA H
 obtain ⟨⟨t254, t255, t256, t257, t260, t263, t266⟩, A4, H⟩ := H
 try dsimp only at H
 have H' := Aside0.mk H
 clear H
 go_enter Tryz.func15, Tryz.ntmps15
 go_wp2_with (first | ((with_reducible refine gate_dst (N := 4) rfl ?_); refine bx_ 4 #[.slice A0_0 l0_0.length c0_0, .int .i64 a0_1] 30 ?_; intro gb253 hg w5 hbox hb; have BK253 := Aside0.mk (hbox); have GW253 := gs_ hg; have NBg_253 := nl_ hg BG; have NB253_g := nr_ hg BG; replace HV := kr_ HV hb; replace BG := kb_ BG hb; replace HK := Aside0.mk (HK.out.below hb); replace HB := Aside0.mk (below_step oB hb); clear hb hbox hg; obtain ⟨⟨_, _⟩, _, _⟩ := z2 BK253) | ((with_reducible refine gate_callee (f := 30) rfl ?_); refine gl_ 15 Tryz.func30 (spec_InodeAt.calls k _ _ l0_0 a0_1 a1 t254 t255 t256 t257 t260 t263 t266 _ (kC HR0_0) HC0_0.out A4.out) ?_; rintro e w7 ⟨v258, v261, v264, rfl, ho0, ho1, ho2, hb⟩; refine ⟨_, rfl, ?_⟩; have HO259 := Aside0.mk (Kd.R_lower ho0 (below_size oB)); have HO262 := Aside0.mk (Kd.R_lower ho1 (below_size oB)); have HO265 := Aside0.mk (Kd.R_lower ho2 (below_size oB)); replace HV := kr_ HV hb; replace BG := kb_ BG hb; replace HK := Aside0.mk (HK.out.below hb); replace BK253 := kb_ BK253 hb; replace HB := Aside0.mk (below_step oB hb); (try clear ho1); (try clear ho2)) | ((with_reducible refine gate_dst (N := 8) rfl ?_); refine bx_ 8 #[.int .i64 0, .int .i64 0, .int .i64 0, .slice none 0 0, .slice none 0 0, .slice none 0 0] 47 ?_; intro gb267 hg w8 hbox hb; have BK267 := Aside0.mk (hbox); have GW267 := gs_ hg; have GS267 : Aside0 (wS.heap.size ≤ gb267) := ⟨hg ▸ HK.out.1⟩; have NB253_267 := nl_ hg BK253; have NB267_253 := nr_ hg BK253; have NBg_267 := nl_ hg BG; have NB267_g := nr_ hg BG; replace HV := kr_ HV hb; replace BG := kb_ BG hb; replace HK := Aside0.mk (HK.out.below hb); replace HO259 := kr_ HO259 hb; replace HO262 := kr_ HO262 hb; replace HO265 := kr_ HO265 hb; replace BK253 := kb_ BK253 hb; replace HB := Aside0.mk (below_step oB hb); clear hb hbox hg; have hnb9 := NB267_253.out; have hnc9 := NB253_267.out; obtain ⟨⟨_, _, _, _, _, _⟩, _, _, _, _, _, _⟩ := z6 BK267; obtain ⟨Ao11, co11, eo11⟩ := Kd.R_slice HO259.out; subst eo11; obtain ⟨Ao12, co12, eo12⟩ := Kd.R_slice HO262.out; subst eo12; obtain ⟨Ao13, co13, eo13⟩ := Kd.R_slice HO265.out; subst eo13))
 go_loopg [10] k (fun kq v10 w' => ∃ (x10_1 : Int) (xs_1 : List ByteArray) (u1 : Value), v10 = .int .i64 x10_1 ∧ Aside0 (spec_l7Paths.l0 kq l0_0 a0_1 a2 t260 x10_1 xs_1 = some r) ∧ Aside0 (kq ≤ k) ∧ Aside0 (Kd.R k63 63 w' w.heap.size (fun _ => True) (.slice Ao12 t260.length co12) t260) ∧ Aside0 (w'.heap[gb253]? = some (.cells #[(.slice A0_0 l0_0.length c0_0), .int .i64 a0_1] 30 (0, 0))) ∧ Aside0 (w'.heap[gb267]? = some (.cells #[.int .i64 t254, .int .i64 t255, .int .i64 t256, (.slice Ao11 t257.length co11), (.slice Ao12 t260.length co12), (.slice Ao13 t263.length co13)] 47 (0, 0))) ∧ Aside0 (w'.heap[g]? = some (.cells #[u1] 26 (0, 0))) ∧ Aside0 (Kd.R Kd.string 9 w' w.heap.size (fun _ => True) u1 xs_1) ∧ Aside0 (Kept wS w' (ty9 g wS)) ∧ Aside0 (Below w.heap.size w w'))
 case atStart => exact ⟨(0), xs, u, oS, H', ⟨Nat.le_refl _⟩, ⟨nR1 HO262 BK267⟩, ⟨oF BK253⟩, ⟨oP BK267⟩, ⟨oF BG⟩, ⟨nR1 HV BK267⟩, ⟨by (with_reducible repeat (refine Kept.setCell ?_ (.inr GS267.out) _)); exact HK.out⟩, ⟨oB⟩⟩
 case round =>
  clear H' HV BG HK HO259 HO262 HO265
  obtain ⟨x10_1, xs_1, u1, rfl, HA, HK1, HE, BK253, BK267, BG, HV, HK, HB⟩ := hrel
  cases gk with
  | zero => exact absurd HA.out (by simp [spec_l7Paths.l0])
  | succ k1 =>
   have H := HA.out
   clear HA
   simp only [spec_l7Paths.l0] at H
   replace H := itD H
   rcases H with ⟨c14b0, H⟩ | ⟨c14b0, H⟩
   ·by_cases c15 : a2.size + 1 ≤ 9223372036854775807
    ·rw [if_pos c15] at H
     have c15b0 := eq_true c15
     have c15b1 : decide (a2.size + 1 ≤ 9223372036854775807) = true := decide_eq_true c15
     try have c15b2 : (9223372036854775807 < a2.size + 1) = False := eq_false (Nat.not_lt.2 c15)
     replace H := itD H
     rcases H with ⟨c16b0, H⟩ | ⟨c16b0, H⟩
     ·by_cases c17 : (a2 ++ (⟨#[47]⟩ : ByteArray)).size + ((rd_T63 t260 x10_1).f0).size ≤ 9223372036854775807
      ·rw [if_pos c17] at H
       have c17b0 := eq_true c17
       have c17b1 : decide ((a2 ++ (⟨#[47]⟩ : ByteArray)).size + ((rd_T63 t260 x10_1).f0).size ≤ 9223372036854775807) = true := decide_eq_true c17
       try have c17b2 : (9223372036854775807 < (a2 ++ (⟨#[47]⟩ : ByteArray)).size + ((rd_T63 t260 x10_1).f0).size) = False := eq_false (Nat.not_lt.2 c17)
       by_cases c18 : xs_1.length < 8796093022208
       ·rw [if_pos c18] at H
        have LM := Aside0.mk c18
        clear c18
        replace H := bA H
        obtain ⟨ys, A17, H⟩ := H
        try dsimp only at H
        have H' := Aside0.mk H
        clear H
        have hnb18 := NB267_253.out
        have hnc18 := NB253_267.out
        obtain ⟨⟨_, _, _, _, _, _⟩, _, _, _, _, _, _⟩ := z6 BK267
        have p268 : (0 ≤ (x10_1 : Int)) = True := oT
        have q268 : (x10_1 < (t260.length : Int)) = True := oT
        obtain ⟨ad268, e268, hx268_0, hx268_1⟩ := at_T63 (Kd.R_reads' HE.out).2.2 x10_1 oa oa
        cases e268
        obtain ⟨_, _⟩ := z1 BG
        go_wp2_with (first | ((with_reducible refine gate_builtin (b := .append) (xs := #[.tmp 37, .tmp 39]) rfl ?_); at_builtin; refine Kd.R_append Kd.string (w0 := w) w.heap.size rfl (.tmp 37) (.tmp 39) 26 9 (.string ⟨#[]⟩) 16 rfl Tryz.underlying26 info9 rfl (by decide) (by omega) u1 xs_1 ((a2 ++ (⟨#[47]⟩ : ByteArray)) ++ ((rd_T63 t260 x10_1).f0)) [.string ((a2 ++ (⟨#[47]⟩ : ByteArray)) ++ ((rd_T63 t260 x10_1).f0))] (fun _ => True) (fun _ => False) rfl (by first | (go_simp; done) | (go_simp; rfl)) ?aP (fun _ hk => hk.elim) ?aF ?aO ?aB ?aS ?aL ?_; (case aP => exact rfl); (case aB => exact oB); (case aF => exact (fun _ _ => trivial)); (case aO => exact oR HV); (case aS => exact (below_size oB)); (case aL => have := LM.out; omega); intro v8 w8 ho hb hg hat; obtain ⟨A8_, c8_, e8_⟩ := Kd.R_slice ho; subst e8_; replace HE := Aside0.mk (Kd.R_over' (oR HE) (Kd.R_typed (oR HV)) (by decide) hg); replace HK := Aside0.mk (kt_then HK.out (kt_grown (oR HV) hg)); replace BK253 := Aside0.mk (blk_grown (oF BK253) hg (Kd.R_ne HV.out BK253.out (by decide))); replace BK267 := Aside0.mk (blk_grown (oF BK267) hg (Kd.R_ne HV.out BK267.out (by decide))); replace BG := Aside0.mk (blk_grown (oF BG) hg (Kd.R_ne HV.out BG.out (by decide))); replace HV := Aside0.mk ho; replace HB := Aside0.mk hb; clear ho hb hg hat; obtain ⟨_, _⟩ := z1 BG) | ((with_reducible refine gate_store (t := 26) (p := 41) rfl ?_); refine store_event (t := 26) (p := 41) (v := ?vo_) (w1 := (w8.setCell ⟨g, 0, none⟩ (.slice A8_ (xs_1 ++ [(a2 ++ (⟨#[47]⟩ : ByteArray)) ++ ((rd_T63 t260 x10_1).f0)]).length c8_))) ?hg ?ho ?hn ?hr ?_; (case ho => rfl); (case hg => rfl); (case hn => rfl); (case hr => first | (go_simp; done) | (go_simp; rfl)); intro w9 hw; subst hw; have hk9_ := kt_set g 0 w8 (.slice A8_ (xs_1 ++ [(a2 ++ (⟨#[47]⟩ : ByteArray)) ++ ((rd_T63 t260 x10_1).f0)]).length c8_); replace HE := Aside0.mk (kt_row HE.out BG.out hk9_); replace BK253 := kt_box BK253 BG hk9_; replace BK267 := kt_box BK267 BG hk9_; replace HK := Aside0.mk (kt_then HK.out hk9_); replace HV := Aside0.mk (Kd.R_mono (Kd.R_far (p := ⟨g, 0, none⟩) (Kd.R_types HV.out BG.out (by decide)) (fun _ hk => hk.2) (.slice A8_ (xs_1 ++ [(a2 ++ (⟨#[47]⟩ : ByteArray)) ++ ((rd_T63 t260 x10_1).f0)]).length c8_)) (fun _ _ => trivial)); replace BG := Aside0.mk (blk_put (cs' := #[(.slice A8_ (xs_1 ++ [(a2 ++ (⟨#[47]⟩ : ByteArray)) ++ ((rd_T63 t260 x10_1).f0)]).length c8_)]) BG.out 0 (.slice A8_ (xs_1 ++ [(a2 ++ (⟨#[47]⟩ : ByteArray)) ++ ((rd_T63 t260 x10_1).f0)]).length c8_) rfl); replace HB := Aside0.mk (bs_ HB.out GWg (j := 0) (v := .slice A8_ (xs_1 ++ [(a2 ++ (⟨#[47]⟩ : ByteArray)) ++ ((rd_T63 t260 x10_1).f0)]).length c8_)); clear hk9_; generalize w8.setCell ⟨g, 0, none⟩ (.slice A8_ (xs_1 ++ [(a2 ++ (⟨#[47]⟩ : ByteArray)) ++ ((rd_T63 t260 x10_1).f0)]).length c8_) = w9 at HE BK253 BK267 HK HV BG HB ⊢))
        replace HE := Aside0.mk (Kd.R_drew HE.out)
        replace HV := Aside0.mk (Kd.R_drew HV.out)
        replace BK253 := Aside0.mk (blk_drew BK253.out)
        replace BK267 := Aside0.mk (blk_drew BK267.out)
        replace BG := Aside0.mk (blk_drew BG.out)
        replace HK := Aside0.mk HK.out.drew
        replace HB := Aside0.mk (below_drew1 HB.out)
        obtain ⟨ad9, e9, hx9_0, hx9_1⟩ := at_T63 (Kd.R_reads' HE.out).2.2 x10_1 oa oa
        obtain rfl : ad268 = ad9 := (by injection e9)
        clear hx9_0
        refine st_ 10 (fun w' => w'.cell? ⟨gb253, 0, none⟩ = some (.slice A0_0 l0_0.length c0_0) ∧ w'.cell? ⟨gb253, 1, none⟩ = some (.int .i64 a0_1) ∧ w'.cell? ⟨gb267, 4, none⟩ = some (.slice (some ad268) t260.length co12) ∧ w'.cell? ⟨(ad268.add ((x10_1).toNat * 2)).block, (ad268.add ((x10_1).toNat * 2)).off + 1, none⟩ = some (.int .i64 ((rd_T63 t260 x10_1).f1))) spec_l7Paths.tab7 spec_l7Paths.bits7 ⟨(blk_cell BK253.out 0).trans rfl, (blk_cell BK253.out 1).trans rfl, (blk_cell BK267.out 4).trans rfl, hx9_1⟩ (fun hHeld HT_ HW_ => ?_)
        generalize w9.drew = w21 at HE HV BK253 BK267 BG HK HB hx9_1 hHeld ⊢
        refine pu_ 1 43 HT_ ?_
        refine pu_ 3 45 HT_ ?_
        refine pu_ 7 49 HT_ ?_
        refine pu_ 8 50 HT_ ?_
        refine ta_ 0 42 HT_ HW_ hHeld ?_
        refine ta_ 2 44 HT_ HW_ hHeld ?_
        refine pu_ 4 46 HT_ ?_
        refine pu_ 5 47 HT_ ?_
        refine ta_ 6 48 HT_ HW_ hHeld ?_
        refine on_ 9 51 HT_ (fun K hK => ?_)
        refine gr_ 51 Tryz.func15 (ih k1 (by have := HK1.out; omega) _ _ l0_0 a0_1 ((rd_T63 t260 x10_1).f1) ((a2 ++ (⟨#[47]⟩ : ByteArray)) ++ ((rd_T63 t260 x10_1).f0)) g _ _ ys w _ HR0_0.out HC0_0.out HB.out GWg.out BG.out HV.out A17.out) ?_
        rintro e w10 ⟨rfl, u2, hG2, hV2, hK2, hB2⟩
        refine ⟨_, rfl, ?_⟩
        replace HE := Aside0.mk (kt_row HE.out BG.out hK2)
        replace BK253 := kt_box BK253 BG hK2
        replace BK267 := kt_box BK267 BG hK2
        replace HK := Aside0.mk (kt_then HK.out hK2)
        replace BG := Aside0.mk hG2
        replace HV := Aside0.mk hV2
        replace HB := Aside0.mk hB2
        clear hG2 hV2 hK2 hB2 hx9_1
        obtain ⟨ad7, e7, h7_0, h7_1⟩ := at_T63 (Kd.R_reads' HE.out).2.2 x10_1 oa oa
        obtain rfl : ad268 = ad7 := (by injection e7)
        refine hk_ hK 51 ⟨(blk_cell BK253.out 0).trans rfl, (blk_cell BK253.out 1).trans rfl, (blk_cell BK267.out 4).trans rfl, h7_1⟩ (fun hHeld => ?_)
        clear hK K
        refine dn_ HT_ ?_
        try go_wp2
        go_roundg k1
        case measure => have := HK1.out; omega
        case rel => exact ⟨(wrap64 (x10_1 + 1)), ys, u2, oS, H', ⟨by have := HK1.out; omega⟩, HE, BK253, BK267, BG, HV, HK, HB⟩
       ·rw [if_neg c18] at H
        exact absurd H (by simp)
      ·rw [if_neg c17] at H
       exact absurd H (by simp)
     ·cases H
    ·rw [if_neg c15] at H
     exact absurd H (by simp)
   ·obtain rfl := Option.some.inj H
    obtain ⟨⟨_, _, _, _, _, _⟩, _, _, _, _, _, _⟩ := z6 BK267
    go_wp2
    refine bodyPost_end (results_none rfl _ _ _) rfl ?_
    exact ⟨rfl, u1, BG.out, HV.out, HK.out, HB.out⟩
/-! ### laws_markInodeS: function 23 -/
/-- An element of a row of inodes, lent: its cells, its rows, and the row without it. -/
structure MkS (w0 W : World) (ok : Nat → Prop) (g n co : Nat) (xs : List S47) (i : Nat) (oki : Nat → Prop) (v3 v4 v5 : Value) (y : S47) : Prop where
 lt : i < n
 h : Kd.H k47 47 W w0.heap.size ok (.slice (some ⟨g, 0, none⟩) n co) xs (i : Int) oki [.int .i64 y.f0, .int .i64 y.f1, .int .i64 y.f2, v3, v4, v5]
 r3 : (Kd.int .u8).R 5 W w0.heap.size oki v3 y.f3
 r4 : k63.R 63 W w0.heap.size oki v4 y.f4
 r5 : k87.R 87 W w0.heap.size oki v5 y.f5
 fr : ∀ j, W.frozen? ⟨g, i * 6 + j, none⟩ = false
 hg : ∀ k, oki k → ok k ∧ k ≠ g
section
variable {w0 W W' : World} {ok oki : Nat → Prop} {g n co i : Nat} {xs : List S47} {v3 v4 v5 : Value} {y : S47}
theorem MkS.start (hS : Kd.S k47 47 W w0.heap.size ok (.slice (some ⟨g, 0, none⟩) n co) xs) (hi : i < n) : ∃ oki v3 v4 v5, MkS w0 W ok g n co xs i oki v3 v4 v5 (rd_T47 xs (i : Int)) := by
 obtain ⟨oki, c, hcl, hM, hcc, hfr, hoki, hH⟩ := Kd.S_elem hS z47 (i : Int) (by omega) (by omega)
 obtain ⟨v3, v4, v5, rfl, g3, g4, g5⟩ := k47_openM hM
 exact ⟨oki, v3, v4, v5, hi, hH, g3, g4, g5, hfr, hoki⟩
theorem MkS.cells (m : MkS w0 W ok g n co xs i oki v3 v4 v5 y) : W.cell? ⟨g, i * 6, none⟩ = some (.int .i64 y.f0) ∧ W.cell? ⟨g, i * 6 + 1, none⟩ = some (.int .i64 y.f1) ∧ W.cell? ⟨g, i * 6 + 2, none⟩ = some (.int .i64 y.f2) ∧ W.cell? ⟨g, i * 6 + 3, none⟩ = some v3 ∧ W.cell? ⟨g, i * 6 + 4, none⟩ = some v4 ∧ W.cell? ⟨g, i * 6 + 5, none⟩ = some v5 := by
 obtain ⟨_, _, _, _, _, hcc, _⟩ := Kd.H_raw m.h (by omega) (by have := m.lt; omega)
 exact ⟨hcc 0 _ rfl, hcc 1 _ rfl, hcc 2 _ rfl, hcc 3 _ rfl, hcc 4 _ rfl, hcc 5 _ rfl⟩
theorem MkS.typed (m : MkS w0 W ok g n co xs i oki v3 v4 v5 y) : ∃ cells, W.heap[g]? = some (.cells cells 47 (0, 0)) := by
 obtain ⟨_, f, hR⟩ := m.h
 exact Kd.R_typed hR g (by simp [Value.ownBlock])
theorem MkS.okg (m : MkS w0 W ok g n co xs i oki v3 v4 v5 y) : ok g := by
 obtain ⟨_, f, hR⟩ := m.h
 exact (hR.1 g (by simp [Value.ownBlock])).1
theorem MkS.base (m : MkS w0 W ok g n co xs i oki v3 v4 v5 y) : w0.heap.size ≤ g := by
 obtain ⟨_, f, hR⟩ := m.h
 exact Kd.R_base hR g (by simp [Value.ownBlock])
theorem MkS.back (m : MkS w0 W ok g n co xs i oki v3 v4 v5 y) : Kd.S k47 47 W w0.heap.size ok (.slice (some ⟨g, 0, none⟩) n co) (xs.set i y) := by
 have := Kd.H_back m.h (k47_mkM W w0.heap.size oki y m.r3 m.r4 m.r5) (fun _ hk => hk)
 simpa using this
theorem MkS.frset (m : MkS w0 W ok g n co xs i oki v3 v4 v5 y) (j : Nat) (u : Value) : ∀ q, (W.setCell ⟨g, i * 6 + j, none⟩ u).frozen? ⟨g, i * 6 + q, none⟩ = false := by
 intro q
 obtain ⟨cs, hc⟩ := m.typed
 exact blk_frozen (blk_set hc _ _) _
theorem MkS.set0 (m : MkS w0 W ok g n co xs i oki v3 v4 v5 y) (a : Int) : MkS w0 (W.setCell ⟨g, i * 6, none⟩ (.int .i64 a)) ok g n co xs i oki v3 v4 v5 ⟨a, y.f1, y.f2, y.f3, y.f4, y.f5⟩ :=
 ⟨m.lt, (Kd.H_seg m.h (seg := [.int .i64 a]) (j := 0) (by omega) (by have := m.lt; omega) (show 1 ≤ 6 by decide) (by simp; rfl)).1, Kd.R_far m.r3 (fun k hk => (m.hg k hk).2) _, Kd.R_far m.r4 (fun k hk => (m.hg k hk).2) _, Kd.R_far m.r5 (fun k hk => (m.hg k hk).2) _, m.frset 0 _, m.hg⟩
theorem MkS.set1 (m : MkS w0 W ok g n co xs i oki v3 v4 v5 y) (a : Int) : MkS w0 (W.setCell ⟨g, i * 6 + 1, none⟩ (.int .i64 a)) ok g n co xs i oki v3 v4 v5 ⟨y.f0, a, y.f2, y.f3, y.f4, y.f5⟩ :=
 ⟨m.lt, (Kd.H_seg m.h (seg := [.int .i64 a]) (j := 1) (by omega) (by have := m.lt; omega) (show 2 ≤ 6 by decide) (by simp; rfl)).1, Kd.R_far m.r3 (fun k hk => (m.hg k hk).2) _, Kd.R_far m.r4 (fun k hk => (m.hg k hk).2) _, Kd.R_far m.r5 (fun k hk => (m.hg k hk).2) _, m.frset 1 _, m.hg⟩
theorem MkS.set2 (m : MkS w0 W ok g n co xs i oki v3 v4 v5 y) (a : Int) : MkS w0 (W.setCell ⟨g, i * 6 + 2, none⟩ (.int .i64 a)) ok g n co xs i oki v3 v4 v5 ⟨y.f0, y.f1, a, y.f3, y.f4, y.f5⟩ :=
 ⟨m.lt, (Kd.H_seg m.h (seg := [.int .i64 a]) (j := 2) (by omega) (by have := m.lt; omega) (show 3 ≤ 6 by decide) (by simp; rfl)).1, Kd.R_far m.r3 (fun k hk => (m.hg k hk).2) _, Kd.R_far m.r4 (fun k hk => (m.hg k hk).2) _, Kd.R_far m.r5 (fun k hk => (m.hg k hk).2) _, m.frset 2 _, m.hg⟩
theorem MkS.frkept (m : MkS w0 W ok g n co xs i oki v3 v4 v5 y) {S : Nat → Prop} (hk : Kept W W' S) (hn : ¬ S g) : ∀ q, W'.frozen? ⟨g, i * 6 + q, none⟩ = false := by
 intro q
 obtain ⟨cs, hc⟩ := m.typed
 exact blk_frozen (blk_kept hc hk hn) _
theorem MkS.after3 (m : MkS w0 W ok g n co xs i oki v3 v4 v5 y) {l : List Int} (hk : Kept W W' (fun k => some k = v3.ownBlock)) (hr : (Kd.int .u8).R 5 W' w0.heap.size (fun k => some k = v3.ownBlock ∨ W.heap.size ≤ k) v3 l) : MkS w0 W' ok g n co xs i oki v3 v4 v5 ⟨y.f0, y.f1, y.f2, l, y.f4, y.f5⟩ := by
 obtain ⟨cs, hc⟩ := m.typed
 exact ⟨m.lt, Kd.H_kept m.h hk (fun k _ hn hs => hn (m.r3.1 k hs.symm)), Kd.R_reok rfl hr (fun k e => m.r3.1 k e), Kd.R_mono (Kd.R_kept (Kd.R_apart' m.r4 (Kd.R_typed m.r3) (by decide)) hk (fun k hk hs => hk.2 hs)) (fun _ hk => hk.1), Kd.R_mono (Kd.R_kept (Kd.R_apart' m.r5 (Kd.R_typed m.r3) (by decide)) hk (fun k hk hs => hk.2 hs)) (fun _ hk => hk.1), m.frkept hk (fun e => Kd.R_ne m.r3 hc (by decide) e), m.hg⟩
theorem MkS.after4 (m : MkS w0 W ok g n co xs i oki v3 v4 v5 y) {l : List S63} (hk : Kept W W' (fun k => some k = v4.ownBlock)) (hr : k63.R 63 W' w0.heap.size (fun k => some k = v4.ownBlock ∨ W.heap.size ≤ k) v4 l) : MkS w0 W' ok g n co xs i oki v3 v4 v5 ⟨y.f0, y.f1, y.f2, y.f3, l, y.f5⟩ := by
 obtain ⟨cs, hc⟩ := m.typed
 exact ⟨m.lt, Kd.H_kept m.h hk (fun k _ hn hs => hn (m.r4.1 k hs.symm)), Kd.R_mono (Kd.R_kept (Kd.R_apart' m.r3 (Kd.R_typed m.r4) (by decide)) hk (fun k hk hs => hk.2 hs)) (fun _ hk => hk.1), Kd.R_reok rfl hr (fun k e => m.r4.1 k e), Kd.R_mono (Kd.R_kept (Kd.R_apart' m.r5 (Kd.R_typed m.r4) (by decide)) hk (fun k hk hs => hk.2 hs)) (fun _ hk => hk.1), m.frkept hk (fun e => Kd.R_ne m.r4 hc (by decide) e), m.hg⟩
theorem MkS.after5 (m : MkS w0 W ok g n co xs i oki v3 v4 v5 y) {l : List S87} (hk : Kept W W' (fun k => some k = v5.ownBlock)) (hr : k87.R 87 W' w0.heap.size (fun k => some k = v5.ownBlock ∨ W.heap.size ≤ k) v5 l) : MkS w0 W' ok g n co xs i oki v3 v4 v5 ⟨y.f0, y.f1, y.f2, y.f3, y.f4, l⟩ := by
 obtain ⟨cs, hc⟩ := m.typed
 exact ⟨m.lt, Kd.H_kept m.h hk (fun k _ hn hs => hn (m.r5.1 k hs.symm)), Kd.R_mono (Kd.R_kept (Kd.R_apart' m.r3 (Kd.R_typed m.r5) (by decide)) hk (fun k hk hs => hk.2 hs)) (fun _ hk => hk.1), Kd.R_mono (Kd.R_kept (Kd.R_apart' m.r4 (Kd.R_typed m.r5) (by decide)) hk (fun k hk hs => hk.2 hs)) (fun _ hk => hk.1), Kd.R_reok rfl hr (fun k e => m.r5.1 k e), m.frkept hk (fun e => Kd.R_ne m.r5 hc (by decide) e), m.hg⟩
end
def markOne (k : Nat) (x : S47) (a : Int) : Option (Int × S47) :=
 (laws_markByteS.f k x.f3 (wrap64 (wrap64 (wrap64 (a + 1) + 1) + 1))).bind fun b => (laws_markEntS.f k x.f4 b.1).bind fun c => (laws_markAttrS.f k x.f5 c.1).bind fun d => some (d.1, ⟨a, wrap64 (a + 1), wrap64 (wrap64 (a + 1) + 1), b.2, c.2, d.2⟩)
def markR (k : Nat) : List S47 → Int → Option (Int × List S47)
 | [], a => some (a, [])
 | x :: l, a => (markOne k x a).bind fun p => (markR k l p.1).bind fun q => some (q.1, p.2 :: q.2)
def laws_markInodeS.f (k : Nat) (l0 : List S47) (a1 : Int) : Option (Int × List S47) := if (l0.length : Int) ≤ 9223372036854775807 then markR k l0 a1 else none
set_option maxHeartbeats 2000000 in
set_option maxRecDepth 100000 in
theorem laws_markInodeS.calls (k : Nat) (P0_ : Nat → Prop) (u9000_ : Value) (l0 : List S47) (a1 r1 : Int) (r2 : List S47) (w0 w : World) (hB : Below w0.heap.size w0 w) (ho0 : Kd.S k47 47 w w0.heap.size P0_ u9000_ l0) (h : laws_markInodeS.f k l0 a1 = some (r1, r2)) :
  Calls Tryz.prog 23 #[u9000_, .int .i64 a1] w fun e w' => e = .returned (.int .i64 r1) ∧ Kd.S k47 47 w' w0.heap.size (fun k_ => P0_ k_ ∨ w.heap.size ≤ k_) u9000_ r2 ∧ Below w0.heap.size w0 w' ∧ Kept w w' P0_ := by
 unfold laws_markInodeS.f at h
 split at h
 case isFalse => cases h
 case isTrue hl =>
 obtain ⟨A, co, rfl⟩ := Kd.S_slice ho0
 have HO := Aside0.mk (show Kd.S k47 47 w w0.heap.size (fun k_ => P0_ k_ ∨ w.heap.size ≤ k_) (.slice A l0.length co) l0 from Kd.S_mono ho0 (fun _ hk => .inl hk))
 have HB := Aside0.mk hB
 have HK := Aside0.mk (Kept.refl w P0_)
 have H' : Aside0 (∃ rest, markR k (l0.drop 0) a1 = some (r1, rest) ∧ r2 = [] ++ rest) := ⟨r2, h, rfl⟩
 have HW := Aside0.mk hB.size
 clear hB ho0 h
 have hl' : l0.length ≤ 9223372036854775807 := by omega
 clear hl
 go_enter Tryz.func23, Tryz.ntmps23
 go_wp2
 go_loopg [1, 5] l0.length (fun gg s1 s5 wr => ∃ (kk : Nat) (a : Int) (done : List S47), kk ≤ l0.length ∧ l0.length - kk ≤ gg ∧ s1 = .int .i64 a ∧ s5 = .int .i64 kk ∧ Aside0 (done.length = kk) ∧ Aside0 (∃ rest, markR k (l0.drop kk) a = some (r1, rest) ∧ r2 = done ++ rest) ∧ Aside0 (Kd.S k47 47 wr w0.heap.size (fun k_ => P0_ k_ ∨ w.heap.size ≤ k_) (.slice A l0.length co) (done ++ l0.drop kk)) ∧ Aside0 (Below w0.heap.size w0 wr) ∧ Aside0 (Kept w wr P0_))
 case atStart => exact ⟨0, a1, [], Nat.zero_le _, by omega, rfl, rfl, ⟨rfl⟩, H', HO, HB, HK⟩
 case round =>
  clear HO HB HK H'
  obtain ⟨kk, a, done, hkk, hgg, rfl, rfl, HD, HA, HO, HB, HK⟩ := hrel
  by_cases hlt : kk < l0.length
  ·have hltz : (kk : Int) < (l0.length : Int) := by omega
   have hnn : (0 : Int) ≤ (kk : Int) := by omega
   obtain ⟨rest, hm, hr2⟩ := HA.out
   clear HA
   have hx : rd_T47 (done ++ l0.drop kk) (kk : Int) = l0[kk] := by
    have hd := HD.out
    simp only [rd_T47, Int.toNat_natCast, List.getD_eq_getElem?_getD]
    rw [List.getElem?_append_right (by omega), hd, Nat.sub_self, List.drop_eq_getElem_cons hlt]
    rfl
   rw [List.drop_eq_getElem_cons hlt, markR] at hm
   replace hm := bA hm
   obtain ⟨⟨a', x'⟩, A1, hm⟩ := hm
   replace hm := bA hm
   obtain ⟨⟨b1, rest'⟩, A2, hm⟩ := hm
   simp only [Option.some.injEq, Prod.mk.injEq] at hm
   obtain ⟨rfl, rfl⟩ := hm
   have A1 := A1.out
   unfold markOne at A1
   replace A1 := bA A1
   obtain ⟨⟨k3, l3⟩, B3, A1⟩ := A1
   replace A1 := bA A1
   obtain ⟨⟨k4, l4⟩, B4, A1⟩ := A1
   replace A1 := bA A1
   obtain ⟨⟨k5, l5⟩, B5, A1⟩ := A1
   simp only [Option.some.injEq, Prod.mk.injEq] at A1
   obtain ⟨rfl, rfl⟩ := A1
   have HR2 := Aside0.mk hr2
   clear hr2
   obtain ⟨g, cap, ev, _, _, _⟩ := Kd.S_form HO.out (by have hd := HD.out; simp; omega)
   injection ev with ea en ec
   subst ea
   clear en
   subst ec
   obtain ⟨oki, v3, v4, v5, m⟩ := MkS.start HO.out hlt
   rw [hx] at m
   clear hx HO
   obtain ⟨c0_, c1_, c2_, c3_, c4_, c5_⟩ := m.cells
   have f0_ : wr.frozen? ⟨g, kk * 6, none⟩ = false := m.fr 0
   have f1_ : wr.frozen? ⟨g, kk * 6 + 1, none⟩ = false := m.fr 1
   have f2_ : wr.frozen? ⟨g, kk * 6 + 2, none⟩ = false := m.fr 2
   have m3 := ((m.set0 a).set1 (wrap64 (a + 1))).set2 (wrap64 (wrap64 (a + 1) + 1))
   have HB3 := Aside0.mk (((HB.out.setCell (p := ⟨g, kk * 6, none⟩) m.base (.int .i64 a)).setCell (p := ⟨g, kk * 6 + 1, none⟩) m.base (.int .i64 (wrap64 (a + 1)))).setCell (p := ⟨g, kk * 6 + 2, none⟩) m.base (.int .i64 (wrap64 (wrap64 (a + 1) + 1))))
   have HK3 := Aside0.mk (((HK.out.setCell (p := ⟨g, kk * 6, none⟩) m.okg (.int .i64 a)).setCell (p := ⟨g, kk * 6 + 1, none⟩) m.okg (.int .i64 (wrap64 (a + 1)))).setCell (p := ⟨g, kk * 6 + 2, none⟩) m.okg (.int .i64 (wrap64 (wrap64 (a + 1) + 1))))
   obtain ⟨A3, n3, e3⟩ := Kd.R_slice m.r3
   obtain ⟨A4, n4, e4⟩ := Kd.R_slice m.r4
   obtain ⟨A5, n5, e5⟩ := Kd.R_slice m.r5
   subst e3
   subst e4
   subst e5
   clear HB HK
   go_wp2_with (first
    | (go_at_call 40; refine (laws_markByteS.calls k _ _ _ _ k3 l3 w0 _ HB3.out (Kd.R_tight rfl m3.r3) B3.out).mono ?_; rintro e w4 ⟨rfl, hy, hb, hk⟩; have m4 := m3.after3 hk hy; have HB4 := Aside0.mk hb; have HK4 := Aside0.mk (HK3.out.then_ hk (fun q hs => (m3.hg q (m3.r3.1 q hs.symm)).1)); clear hb hk hy; obtain ⟨_, _, _, _, d4, d5⟩ := m4.cells)
    | (go_at_call 41; refine (laws_markEntS.calls k _ _ _ _ k4 l4 w0 _ HB4.out (Kd.R_tight rfl m4.r4) B4.out).mono ?_; rintro e w5 ⟨rfl, hy, hb, hk⟩; have m5 := m4.after4 hk hy; have HB5 := Aside0.mk hb; have HK5 := Aside0.mk (HK4.out.then_ hk (fun q hs => (m4.hg q (m4.r4.1 q hs.symm)).1)); clear hb hk hy; obtain ⟨_, _, _, _, _, e5⟩ := m5.cells)
    | (go_at_call 42; refine (laws_markAttrS.calls k _ _ _ _ k5 l5 w0 _ HB5.out (Kd.R_tight rfl m5.r5) B5.out).mono ?_; rintro e w6 ⟨rfl, hy, hb, hk⟩; have m6 := m5.after5 hk hy; have HB6 := Aside0.mk hb; have HK6 := Aside0.mk (HK5.out.then_ hk (fun q hs => (m5.hg q (m5.r5.1 q hs.symm)).1)); clear hb hk hy))
   go_roundg (l0.length - (kk + 1))
   case measure => omega
   case rel =>
    refine ⟨kk + 1, k5, done ++ [⟨a, wrap64 (a + 1), wrap64 (wrap64 (a + 1) + 1), l3, l4, l5⟩], by omega, by omega, rfl, by go_num, ⟨by have hd := HD.out; simp; omega⟩, ⟨rest', A2.out, by rw [HR2.out]; simp⟩, ⟨?_⟩, HB6, HK6⟩
    have hs := m6.back
    have hd := HD.out
    rw [List.set_append_right _ _ (by omega), hd, Nat.sub_self, List.drop_eq_getElem_cons hlt, List.set_cons_zero] at hs
    simpa using hs
  ·have hltz : ¬ (kk : Int) < (l0.length : Int) := by omega
   obtain rfl : kk = l0.length := by omega
   obtain ⟨rest, hm, hr2⟩ := HA.out
   rw [List.drop_length, markR] at hm
   simp only [Option.some.injEq, Prod.mk.injEq] at hm
   obtain ⟨rfl, rfl⟩ := hm
   subst hr2
   have HO1 := HO.out
   rw [List.drop_length] at HO1
   have HO2 := Aside0.mk HO1
   clear HO HO1 HA
   go_wp2
   go_ret
   exact ⟨rfl, by simpa using HO2.out, HB.out, HK.out⟩
/-! ### laws_eqInode: function 39 -/
def laws_eqInode.f (k : Nat) (a0_0 : Int) (a0_1 : Int) (a0_2 : Int) (l0_3 : List Int) (l0_4 : List (S63)) (l0_5 : List (S87)) (a1_0 : Int) (a1_1 : Int) (a1_2 : Int) (l1_3 : List Int) (l1_4 : List (S63)) (l1_5 : List (S87)) : Option (Bool) := if a0_0 = a1_0 then (if a0_1 = a1_1 then (if a0_2 = a1_2 then ((laws_eqByteS.f k l0_3 l1_3).bind fun t519 => (if t519 = true then ((laws_eqEntS.f k l0_4 l1_4).bind fun t520 => (if t520 = true then ((laws_eqAttrS.f k l0_5 l1_5).bind fun t521 => (if t521 = true then (some true) else (some false))) else (some false))) else (some false))) else (some false)) else (some false)) else (some false)
set_option maxHeartbeats 8000000 in
set_option maxRecDepth 100000 in
theorem laws_eqInode.calls (k : Nat) (a0_0 : Int) (a0_1 : Int) (a0_2 : Int) (A0_3 : Option Addr) (c0_3 : Nat) (l0_3 : List Int) (A0_4 : Option Addr) (c0_4 : Nat) (l0_4 : List (S63)) (A0_5 : Option Addr) (c0_5 : Nat) (l0_5 : List (S87)) (a1_0 : Int) (a1_1 : Int) (a1_2 : Int) (A1_3 : Option Addr) (c1_3 : Nat) (l1_3 : List Int) (A1_4 : Option Addr) (c1_4 : Nat) (l1_4 : List (S63)) (A1_5 : Option Addr) (c1_5 : Nat) (l1_5 : List (S87)) (r : Bool) (w : World) (hr0_3 : Kd.C (Kd.int .u8) w A0_3 l0_3.length l0_3) (hc0_3 : l0_3.length ≤ c0_3) (hr0_4 : Kd.C k63 w A0_4 l0_4.length l0_4) (hc0_4 : l0_4.length ≤ c0_4) (hr0_5 : Kd.C k87 w A0_5 l0_5.length l0_5) (hc0_5 : l0_5.length ≤ c0_5) (hr1_3 : Kd.C (Kd.int .u8) w A1_3 l1_3.length l1_3) (hc1_3 : l1_3.length ≤ c1_3) (hr1_4 : Kd.C k63 w A1_4 l1_4.length l1_4) (hc1_4 : l1_4.length ≤ c1_4) (hr1_5 : Kd.C k87 w A1_5 l1_5.length l1_5) (hc1_5 : l1_5.length ≤ c1_5) (h : laws_eqInode.f k a0_0 a0_1 a0_2 l0_3 l0_4 l0_5 a1_0 a1_1 a1_2 l1_3 l1_4 l1_5 = some r) :
  Calls Tryz.prog 39 #[.agg #[.int .i64 a0_0, .int .i64 a0_1, .int .i64 a0_2, .slice A0_3 l0_3.length c0_3, .slice A0_4 l0_4.length c0_4, .slice A0_5 l0_5.length c0_5], .agg #[.int .i64 a1_0, .int .i64 a1_1, .int .i64 a1_2, .slice A1_3 l1_3.length c1_3, .slice A1_4 l1_4.length c1_4, .slice A1_5 l1_5.length c1_5]] w fun e w' => e = .returned (.bool r) ∧ Below w.heap.size w w' := by
 have hu47 := Tryz.underlying47
 have HR0_3 := Aside0.mk hr0_3
 have HC0_3 := Aside0.mk hc0_3
 clear hr0_3 hc0_3
 have HR0_4 := Aside0.mk hr0_4
 have HC0_4 := Aside0.mk hc0_4
 clear hr0_4 hc0_4
 have HR0_5 := Aside0.mk hr0_5
 have HC0_5 := Aside0.mk hc0_5
 clear hr0_5 hc0_5
 have HR1_3 := Aside0.mk hr1_3
 have HC1_3 := Aside0.mk hc1_3
 clear hr1_3 hc1_3
 have HR1_4 := Aside0.mk hr1_4
 have HC1_4 := Aside0.mk hc1_4
 clear hr1_4 hc1_4
 have HR1_5 := Aside0.mk hr1_5
 have HC1_5 := Aside0.mk hc1_5
 clear hr1_5 hc1_5
 have HB := Aside0.mk (Below.refl w.heap.size w)
 unfold laws_eqInode.f at h
 have H := h
 clear h
 by_cases c3 : a0_0 = a1_0
 ·rw [if_pos c3] at H
  have c3b0 : (a0_0 == a1_0) = true := beq_iff_eq.mpr c3
  have c3b1 : (a0_0 != a1_0) = false := bne_eq_false_iff_eq.mpr c3
  clear c3
  by_cases c4 : a0_1 = a1_1
  ·rw [if_pos c4] at H
   have c4b0 : (a0_1 == a1_1) = true := beq_iff_eq.mpr c4
   have c4b1 : (a0_1 != a1_1) = false := bne_eq_false_iff_eq.mpr c4
   clear c4
   by_cases c5 : a0_2 = a1_2
   ·rw [if_pos c5] at H
    have c5b0 : (a0_2 == a1_2) = true := beq_iff_eq.mpr c5
    have c5b1 : (a0_2 != a1_2) = false := bne_eq_false_iff_eq.mpr c5
    clear c5
    replace H := bA H
    obtain ⟨t519, A6, H⟩ := H
    try dsimp only at H
    replace H := itB H
    rcases H with ⟨rfl, H⟩ | ⟨rfl, H⟩
    ·replace H := bA H
     obtain ⟨t520, A8, H⟩ := H
     try dsimp only at H
     replace H := itB H
     rcases H with ⟨rfl, H⟩ | ⟨rfl, H⟩
     ·replace H := bA H
      obtain ⟨t521, A10, H⟩ := H
      try dsimp only at H
      replace H := itB H
      rcases H with ⟨rfl, H⟩ | ⟨rfl, H⟩
      ·obtain rfl := Option.some.inj H
       go_enter Tryz.func39, Tryz.ntmps39
       go_wp2_with (first | ((with_reducible refine gate_dst (N := 2) rfl ?_); refine bx_ 2 #[.int .i64 a0_0, .int .i64 a0_1, .int .i64 a0_2, .slice A0_3 l0_3.length c0_3, .slice A0_4 l0_4.length c0_4, .slice A0_5 l0_5.length c0_5] 47 ?_; intro gb517 hg w12 hbox hb; have BK517 := Aside0.mk (hbox); have GW517 := gs_ hg; replace HB := Aside0.mk (below_step oB hb); clear hb hbox hg) | ((with_reducible refine gate_dst (N := 3) rfl ?_); refine bx_ 3 #[.int .i64 a1_0, .int .i64 a1_1, .int .i64 a1_2, .slice A1_3 l1_3.length c1_3, .slice A1_4 l1_4.length c1_4, .slice A1_5 l1_5.length c1_5] 47 ?_; intro gb518 hg w13 hbox hb; have BK518 := Aside0.mk (hbox); have GW518 := gs_ hg; have NB517_518 := nl_ hg BK517; have NB518_517 := nr_ hg BK517; replace BK517 := kb_ BK517 hb; replace HB := Aside0.mk (below_step oB hb); clear hb hbox hg; have hnb14 := NB517_518.out; have hnc14 := NB518_517.out; obtain ⟨⟨_, _, _, _, _, _⟩, _, _, _, _, _, _⟩ := z6 BK517; obtain ⟨⟨_, _, _, _, _, _⟩, _, _, _, _, _, _⟩ := z6 BK518) | ((with_reducible refine gate_callee (f := 73) rfl ?_); refine gl_ 24 Tryz.func73 (laws_eqByteS.calls k _ _ l0_3 _ _ l1_3 true _ (kC HR0_3) HC0_3.out (kC HR1_3) HC1_3.out A6.out) ?_; rintro e w' ⟨rfl, ⟨nd, rfl⟩⟩; refine ⟨_, rfl, ?_⟩) | ((with_reducible refine gate_callee (f := 74) rfl ?_); refine gl_ 30 Tryz.func74 (laws_eqEntS.calls k _ _ l0_4 _ _ l1_4 true _ (kC HR0_4) HC0_4.out (kC HR1_4) HC1_4.out A8.out) ?_; rintro e w17 ⟨rfl, hb⟩; refine ⟨_, rfl, ?_⟩; replace BK517 := kb_ BK517 hb; replace BK518 := kb_ BK518 hb; replace HB := Aside0.mk (below_step oB hb); obtain ⟨⟨_, _, _, _, _, _⟩, _, _, _, _, _, _⟩ := z6 BK517; obtain ⟨⟨_, _, _, _, _, _⟩, _, _, _, _, _, _⟩ := z6 BK518) | ((with_reducible refine gate_callee (f := 75) rfl ?_); refine gl_ 36 Tryz.func75 (laws_eqAttrS.calls k _ _ l0_5 _ _ l1_5 true _ (kC HR0_5) HC0_5.out (kC HR1_5) HC1_5.out A10.out) ?_; rintro e w20 ⟨rfl, hb⟩; refine ⟨_, rfl, ?_⟩; replace BK517 := kb_ BK517 hb; replace BK518 := kb_ BK518 hb; replace HB := Aside0.mk (below_step oB hb)))
       go_ret
       exact ⟨oE, oB⟩
      ·obtain rfl := Option.some.inj H
       go_enter Tryz.func39, Tryz.ntmps39
       go_wp2_with (first | ((with_reducible refine gate_dst (N := 2) rfl ?_); refine bx_ 2 #[.int .i64 a0_0, .int .i64 a0_1, .int .i64 a0_2, .slice A0_3 l0_3.length c0_3, .slice A0_4 l0_4.length c0_4, .slice A0_5 l0_5.length c0_5] 47 ?_; intro gb517 hg w21 hbox hb; have BK517 := Aside0.mk (hbox); have GW517 := gs_ hg; replace HB := Aside0.mk (below_step oB hb); clear hb hbox hg) | ((with_reducible refine gate_dst (N := 3) rfl ?_); refine bx_ 3 #[.int .i64 a1_0, .int .i64 a1_1, .int .i64 a1_2, .slice A1_3 l1_3.length c1_3, .slice A1_4 l1_4.length c1_4, .slice A1_5 l1_5.length c1_5] 47 ?_; intro gb518 hg w22 hbox hb; have BK518 := Aside0.mk (hbox); have GW518 := gs_ hg; have NB517_518 := nl_ hg BK517; have NB518_517 := nr_ hg BK517; replace BK517 := kb_ BK517 hb; replace HB := Aside0.mk (below_step oB hb); clear hb hbox hg; have hnb23 := NB517_518.out; have hnc23 := NB518_517.out; obtain ⟨⟨_, _, _, _, _, _⟩, _, _, _, _, _, _⟩ := z6 BK517; obtain ⟨⟨_, _, _, _, _, _⟩, _, _, _, _, _, _⟩ := z6 BK518) | ((with_reducible refine gate_callee (f := 73) rfl ?_); refine gl_ 24 Tryz.func73 (laws_eqByteS.calls k _ _ l0_3 _ _ l1_3 true _ (kC HR0_3) HC0_3.out (kC HR1_3) HC1_3.out A6.out) ?_; rintro e w' ⟨rfl, ⟨nd, rfl⟩⟩; refine ⟨_, rfl, ?_⟩) | ((with_reducible refine gate_callee (f := 74) rfl ?_); refine gl_ 30 Tryz.func74 (laws_eqEntS.calls k _ _ l0_4 _ _ l1_4 true _ (kC HR0_4) HC0_4.out (kC HR1_4) HC1_4.out A8.out) ?_; rintro e w26 ⟨rfl, hb⟩; refine ⟨_, rfl, ?_⟩; replace BK517 := kb_ BK517 hb; replace BK518 := kb_ BK518 hb; replace HB := Aside0.mk (below_step oB hb); obtain ⟨⟨_, _, _, _, _, _⟩, _, _, _, _, _, _⟩ := z6 BK517; obtain ⟨⟨_, _, _, _, _, _⟩, _, _, _, _, _, _⟩ := z6 BK518) | ((with_reducible refine gate_callee (f := 75) rfl ?_); refine gl_ 36 Tryz.func75 (laws_eqAttrS.calls k _ _ l0_5 _ _ l1_5 false _ (kC HR0_5) HC0_5.out (kC HR1_5) HC1_5.out A10.out) ?_; rintro e w29 ⟨rfl, hb⟩; refine ⟨_, rfl, ?_⟩; replace BK517 := kb_ BK517 hb; replace BK518 := kb_ BK518 hb; replace HB := Aside0.mk (below_step oB hb)))
       go_ret
       exact ⟨oE, oB⟩
     ·obtain rfl := Option.some.inj H
      go_enter Tryz.func39, Tryz.ntmps39
      go_wp2_with (first | ((with_reducible refine gate_dst (N := 2) rfl ?_); refine bx_ 2 #[.int .i64 a0_0, .int .i64 a0_1, .int .i64 a0_2, .slice A0_3 l0_3.length c0_3, .slice A0_4 l0_4.length c0_4, .slice A0_5 l0_5.length c0_5] 47 ?_; intro gb517 hg w30 hbox hb; have BK517 := Aside0.mk (hbox); have GW517 := gs_ hg; replace HB := Aside0.mk (below_step oB hb); clear hb hbox hg) | ((with_reducible refine gate_dst (N := 3) rfl ?_); refine bx_ 3 #[.int .i64 a1_0, .int .i64 a1_1, .int .i64 a1_2, .slice A1_3 l1_3.length c1_3, .slice A1_4 l1_4.length c1_4, .slice A1_5 l1_5.length c1_5] 47 ?_; intro gb518 hg w31 hbox hb; have BK518 := Aside0.mk (hbox); have GW518 := gs_ hg; have NB517_518 := nl_ hg BK517; have NB518_517 := nr_ hg BK517; replace BK517 := kb_ BK517 hb; replace HB := Aside0.mk (below_step oB hb); clear hb hbox hg; have hnb32 := NB517_518.out; have hnc32 := NB518_517.out; obtain ⟨⟨_, _, _, _, _, _⟩, _, _, _, _, _, _⟩ := z6 BK517; obtain ⟨⟨_, _, _, _, _, _⟩, _, _, _, _, _, _⟩ := z6 BK518) | ((with_reducible refine gate_callee (f := 73) rfl ?_); refine gl_ 24 Tryz.func73 (laws_eqByteS.calls k _ _ l0_3 _ _ l1_3 true _ (kC HR0_3) HC0_3.out (kC HR1_3) HC1_3.out A6.out) ?_; rintro e w' ⟨rfl, ⟨nd, rfl⟩⟩; refine ⟨_, rfl, ?_⟩) | ((with_reducible refine gate_callee (f := 74) rfl ?_); refine gl_ 30 Tryz.func74 (laws_eqEntS.calls k _ _ l0_4 _ _ l1_4 false _ (kC HR0_4) HC0_4.out (kC HR1_4) HC1_4.out A8.out) ?_; rintro e w35 ⟨rfl, hb⟩; refine ⟨_, rfl, ?_⟩; replace BK517 := kb_ BK517 hb; replace BK518 := kb_ BK518 hb; replace HB := Aside0.mk (below_step oB hb)))
      go_ret
      exact ⟨oE, oB⟩
    ·obtain rfl := Option.some.inj H
     go_enter Tryz.func39, Tryz.ntmps39
     go_wp2_with (first | ((with_reducible refine gate_dst (N := 2) rfl ?_); refine bx_ 2 #[.int .i64 a0_0, .int .i64 a0_1, .int .i64 a0_2, .slice A0_3 l0_3.length c0_3, .slice A0_4 l0_4.length c0_4, .slice A0_5 l0_5.length c0_5] 47 ?_; intro gb517 hg w36 hbox hb; have BK517 := Aside0.mk (hbox); have GW517 := gs_ hg; replace HB := Aside0.mk (below_step oB hb); clear hb hbox hg) | ((with_reducible refine gate_dst (N := 3) rfl ?_); refine bx_ 3 #[.int .i64 a1_0, .int .i64 a1_1, .int .i64 a1_2, .slice A1_3 l1_3.length c1_3, .slice A1_4 l1_4.length c1_4, .slice A1_5 l1_5.length c1_5] 47 ?_; intro gb518 hg w37 hbox hb; have BK518 := Aside0.mk (hbox); have GW518 := gs_ hg; have NB517_518 := nl_ hg BK517; have NB518_517 := nr_ hg BK517; replace BK517 := kb_ BK517 hb; replace HB := Aside0.mk (below_step oB hb); clear hb hbox hg; have hnb38 := NB517_518.out; have hnc38 := NB518_517.out; obtain ⟨⟨_, _, _, _, _, _⟩, _, _, _, _, _, _⟩ := z6 BK517; obtain ⟨⟨_, _, _, _, _, _⟩, _, _, _, _, _, _⟩ := z6 BK518) | ((with_reducible refine gate_callee (f := 73) rfl ?_); refine gl_ 24 Tryz.func73 (laws_eqByteS.calls k _ _ l0_3 _ _ l1_3 false _ (kC HR0_3) HC0_3.out (kC HR1_3) HC1_3.out A6.out) ?_; rintro e w' ⟨rfl, ⟨nd, rfl⟩⟩; refine ⟨_, rfl, ?_⟩))
     go_ret
     exact ⟨oE, oB⟩
   ·rw [if_neg c5] at H
    have c5b0 : (a0_2 == a1_2) = false := beq_eq_false_iff_ne.mpr c5
    have c5b1 : (a0_2 != a1_2) = true := bne_iff_ne.mpr c5
    obtain rfl := Option.some.inj H
    go_enter Tryz.func39, Tryz.ntmps39
    go_wp2_with (first | ((with_reducible refine gate_dst (N := 2) rfl ?_); refine bx_ 2 #[.int .i64 a0_0, .int .i64 a0_1, .int .i64 a0_2, .slice A0_3 l0_3.length c0_3, .slice A0_4 l0_4.length c0_4, .slice A0_5 l0_5.length c0_5] 47 ?_; intro gb517 hg w41 hbox hb; have BK517 := Aside0.mk (hbox); have GW517 := gs_ hg; replace HB := Aside0.mk (below_step oB hb); clear hb hbox hg) | ((with_reducible refine gate_dst (N := 3) rfl ?_); refine bx_ 3 #[.int .i64 a1_0, .int .i64 a1_1, .int .i64 a1_2, .slice A1_3 l1_3.length c1_3, .slice A1_4 l1_4.length c1_4, .slice A1_5 l1_5.length c1_5] 47 ?_; intro gb518 hg w42 hbox hb; have BK518 := Aside0.mk (hbox); have GW518 := gs_ hg; have NB517_518 := nl_ hg BK517; have NB518_517 := nr_ hg BK517; replace BK517 := kb_ BK517 hb; replace HB := Aside0.mk (below_step oB hb); clear hb hbox hg; have hnb43 := NB517_518.out; have hnc43 := NB518_517.out; obtain ⟨⟨_, _, _, _, _, _⟩, _, _, _, _, _, _⟩ := z6 BK517; obtain ⟨⟨_, _, _, _, _, _⟩, _, _, _, _, _, _⟩ := z6 BK518))
    go_ret
    exact ⟨oE, oB⟩
  ·rw [if_neg c4] at H
   have c4b0 : (a0_1 == a1_1) = false := beq_eq_false_iff_ne.mpr c4
   have c4b1 : (a0_1 != a1_1) = true := bne_iff_ne.mpr c4
   obtain rfl := Option.some.inj H
   go_enter Tryz.func39, Tryz.ntmps39
   go_wp2_with (first | ((with_reducible refine gate_dst (N := 2) rfl ?_); refine bx_ 2 #[.int .i64 a0_0, .int .i64 a0_1, .int .i64 a0_2, .slice A0_3 l0_3.length c0_3, .slice A0_4 l0_4.length c0_4, .slice A0_5 l0_5.length c0_5] 47 ?_; intro gb517 hg w46 hbox hb; have BK517 := Aside0.mk (hbox); have GW517 := gs_ hg; replace HB := Aside0.mk (below_step oB hb); clear hb hbox hg) | ((with_reducible refine gate_dst (N := 3) rfl ?_); refine bx_ 3 #[.int .i64 a1_0, .int .i64 a1_1, .int .i64 a1_2, .slice A1_3 l1_3.length c1_3, .slice A1_4 l1_4.length c1_4, .slice A1_5 l1_5.length c1_5] 47 ?_; intro gb518 hg w47 hbox hb; have BK518 := Aside0.mk (hbox); have GW518 := gs_ hg; have NB517_518 := nl_ hg BK517; have NB518_517 := nr_ hg BK517; replace BK517 := kb_ BK517 hb; replace HB := Aside0.mk (below_step oB hb); clear hb hbox hg; have hnb48 := NB517_518.out; have hnc48 := NB518_517.out; obtain ⟨⟨_, _, _, _, _, _⟩, _, _, _, _, _, _⟩ := z6 BK517; obtain ⟨⟨_, _, _, _, _, _⟩, _, _, _, _, _, _⟩ := z6 BK518))
   go_ret
   exact ⟨oE, oB⟩
 ·rw [if_neg c3] at H
  have c3b0 : (a0_0 == a1_0) = false := beq_eq_false_iff_ne.mpr c3
  have c3b1 : (a0_0 != a1_0) = true := bne_iff_ne.mpr c3
  obtain rfl := Option.some.inj H
  go_enter Tryz.func39, Tryz.ntmps39
  go_wp2_with (first | ((with_reducible refine gate_dst (N := 2) rfl ?_); refine bx_ 2 #[.int .i64 a0_0, .int .i64 a0_1, .int .i64 a0_2, .slice A0_3 l0_3.length c0_3, .slice A0_4 l0_4.length c0_4, .slice A0_5 l0_5.length c0_5] 47 ?_; intro gb517 hg w51 hbox hb; have BK517 := Aside0.mk (hbox); have GW517 := gs_ hg; replace HB := Aside0.mk (below_step oB hb); clear hb hbox hg) | ((with_reducible refine gate_dst (N := 3) rfl ?_); refine bx_ 3 #[.int .i64 a1_0, .int .i64 a1_1, .int .i64 a1_2, .slice A1_3 l1_3.length c1_3, .slice A1_4 l1_4.length c1_4, .slice A1_5 l1_5.length c1_5] 47 ?_; intro gb518 hg w52 hbox hb; have BK518 := Aside0.mk (hbox); have GW518 := gs_ hg; have NB517_518 := nl_ hg BK517; have NB518_517 := nr_ hg BK517; replace BK517 := kb_ BK517 hb; replace HB := Aside0.mk (below_step oB hb); clear hb hbox hg; have hnb53 := NB517_518.out; have hnc53 := NB518_517.out; obtain ⟨⟨_, _, _, _, _, _⟩, _, _, _, _, _, _⟩ := z6 BK517; obtain ⟨⟨_, _, _, _, _, _⟩, _, _, _, _, _, _⟩ := z6 BK518))
  go_ret
  exact ⟨oE, oB⟩

end Go.Proofs.YtolkhimbfegkkaaGreat.P
