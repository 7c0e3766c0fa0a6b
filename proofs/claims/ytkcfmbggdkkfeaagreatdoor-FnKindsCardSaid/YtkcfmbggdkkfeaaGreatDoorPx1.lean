-- By this session's own program (wip/myprint.py) out of the translation; Lean checks it.
import Derived.Test.YtkcfmbggdkkfeaaGreatDoorPx0
namespace Go.Proofs.YtkcfmbggdkkfeaaGreatDoor.P
open Go.RowKit Go.Proofs.YtkcfmbggdkkfeaaGreatDoorW.PrintWords Go.Proofs.YtkcfmbggdkkfeaaGreatDoorW.PrintLast Go.Proofs.YtkcfmbggdkkfeaaGreatDoorW.PrintMore
attribute [local go_sem] max2_int min2_int max_two min_two max_three min_three max_four min_four   -- for this text's walks alone
set_option linter.unusedVariables false
set_option linter.unusedSimpArgs false

/-! ### impl_NameOk: function 52 -/
def impl_NameOk.l0 : Nat → ByteArray → Int → Int → Option (Bool)
 | 0, _, _, _ => none
 | k + 1, x0, x6, x7 => if x7 < x6 then (if 0 ≤ x7 then (if x7 < (x0.size : Int) then (if (bt x0 x7) < 97 then (if (bt x0 x7) < 48 then (if (bt x0 x7) = 95 then (impl_NameOk.l0 k x0 x6 (wrap64 (x7 + 1))) else (if (bt x0 x7) = 45 then (impl_NameOk.l0 k x0 x6 (wrap64 (x7 + 1))) else (if (bt x0 x7) = 46 then (impl_NameOk.l0 k x0 x6 (wrap64 (x7 + 1))) else (some false)))) else (if (bt x0 x7) > 57 then (if (bt x0 x7) = 95 then (impl_NameOk.l0 k x0 x6 (wrap64 (x7 + 1))) else (if (bt x0 x7) = 45 then (impl_NameOk.l0 k x0 x6 (wrap64 (x7 + 1))) else (if (bt x0 x7) = 46 then (impl_NameOk.l0 k x0 x6 (wrap64 (x7 + 1))) else (some false)))) else (impl_NameOk.l0 k x0 x6 (wrap64 (x7 + 1))))) else (if (bt x0 x7) > 122 then (if (bt x0 x7) < 48 then (if (bt x0 x7) = 95 then (impl_NameOk.l0 k x0 x6 (wrap64 (x7 + 1))) else (if (bt x0 x7) = 45 then (impl_NameOk.l0 k x0 x6 (wrap64 (x7 + 1))) else (if (bt x0 x7) = 46 then (impl_NameOk.l0 k x0 x6 (wrap64 (x7 + 1))) else (some false)))) else (if (bt x0 x7) > 57 then (if (bt x0 x7) = 95 then (impl_NameOk.l0 k x0 x6 (wrap64 (x7 + 1))) else (if (bt x0 x7) = 45 then (impl_NameOk.l0 k x0 x6 (wrap64 (x7 + 1))) else (if (bt x0 x7) = 46 then (impl_NameOk.l0 k x0 x6 (wrap64 (x7 + 1))) else (some false)))) else (impl_NameOk.l0 k x0 x6 (wrap64 (x7 + 1))))) else (impl_NameOk.l0 k x0 x6 (wrap64 (x7 + 1))))) else (none)) else (none)) else (if (x0.size : Int) ≥ 1 then (if (x0.size : Int) ≤ 14 then (if x0.toList = ([46] : List UInt8) then (some false) else (some (x0.toList != ([46, 46] : List UInt8)))) else (some false)) else (some false))
def impl_NameOk.f (k : Nat) (a0 : ByteArray) : Option (Bool) := impl_NameOk.l0 k a0 (a0.size : Int) 0
set_option maxHeartbeats 8000000 in
set_option maxRecDepth 100000 in
theorem impl_NameOk.calls (k : Nat) (a0 : ByteArray) (r : Bool) (w : World) (h : impl_NameOk.f k a0 = some r) :
  Calls Tryz.prog 52 #[.string a0] w fun e w' => e = .returned (.bool r) ∧ Drawn0 w w' := by
 unfold impl_NameOk.f at h
 have H := h
 clear h
 have H' := Aside0.mk H
 clear H
 go_enter Tryz.func52, Tryz.ntmps52
 go_wp2
 go_loopg [7] k (fun kq v7 w' => ∃ (x7_1 : Int), v7 = .int .i64 x7_1 ∧ Aside0 (impl_NameOk.l0 kq a0 (a0.size : Int) x7_1 = some r) ∧ Aside0 (kq ≤ k) ∧ Drawn0 w w')
 case atStart => exact ⟨(0), oS, H', ⟨Nat.le_refl _⟩, oD⟩
 case round =>
  clear H'
  obtain ⟨x7_1, rfl, HA, HK1, ⟨m1, rfl⟩⟩ := hrel
  cases gk with
  | zero => exact absurd HA.out (by simp [impl_NameOk.l0])
  | succ k1 =>
   have H := HA.out
   clear HA
   simp only [impl_NameOk.l0] at H
   replace H := itD H
   rcases H with ⟨c2b0, H⟩ | ⟨c2b0, H⟩
   ·replace H := itD H
    rcases H with ⟨c3b0, H⟩ | ⟨c3b0, H⟩
    ·replace H := itD H
     rcases H with ⟨c4b0, H⟩ | ⟨c4b0, H⟩
     ·replace H := itD H
      rcases H with ⟨c6b0, H⟩ | ⟨c6b0, H⟩
      ·replace H := itD H
       rcases H with ⟨c7b0, H⟩ | ⟨c7b0, H⟩
       ·by_cases c8 : (bt a0 x7_1) = 95
        ·rw [if_pos c8] at H
         have c8b0 : ((bt a0 x7_1) == 95) = true := beq_iff_eq.mpr c8
         have c8b1 : ((bt a0 x7_1) != 95) = false := bne_eq_false_iff_eq.mpr c8
         clear c8
         have H' := Aside0.mk H
         clear H
         have p5 : (0 ≤ (x7_1 : Int)) = True := oT
         have q5 : (x7_1 < (a0.size : Int)) = True := oT
         have hx5 := bt_at a0 x7_1
         go_wp2
         go_roundg k1
         case measure => have := HK1.out; omega
         case rel => exact ⟨(wrap64 (x7_1 + 1)), oS, H', ⟨by have := HK1.out; omega⟩, oD⟩
        ·rw [if_neg c8] at H
         have c8b0 : ((bt a0 x7_1) == 95) = false := beq_eq_false_iff_ne.mpr c8
         have c8b1 : ((bt a0 x7_1) != 95) = true := bne_iff_ne.mpr c8
         by_cases c9 : (bt a0 x7_1) = 45
         ·rw [if_pos c9] at H
          have c9b0 : ((bt a0 x7_1) == 45) = true := beq_iff_eq.mpr c9
          have c9b1 : ((bt a0 x7_1) != 45) = false := bne_eq_false_iff_eq.mpr c9
          clear c9
          have H' := Aside0.mk H
          clear H
          have p5 : (0 ≤ (x7_1 : Int)) = True := oT
          have q5 : (x7_1 < (a0.size : Int)) = True := oT
          have hx5 := bt_at a0 x7_1
          go_wp2
          go_roundg k1
          case measure => have := HK1.out; omega
          case rel => exact ⟨(wrap64 (x7_1 + 1)), oS, H', ⟨by have := HK1.out; omega⟩, oD⟩
         ·rw [if_neg c9] at H
          have c9b0 : ((bt a0 x7_1) == 45) = false := beq_eq_false_iff_ne.mpr c9
          have c9b1 : ((bt a0 x7_1) != 45) = true := bne_iff_ne.mpr c9
          by_cases c10 : (bt a0 x7_1) = 46
          ·rw [if_pos c10] at H
           have c10b0 : ((bt a0 x7_1) == 46) = true := beq_iff_eq.mpr c10
           have c10b1 : ((bt a0 x7_1) != 46) = false := bne_eq_false_iff_eq.mpr c10
           clear c10
           have H' := Aside0.mk H
           clear H
           have p5 : (0 ≤ (x7_1 : Int)) = True := oT
           have q5 : (x7_1 < (a0.size : Int)) = True := oT
           have hx5 := bt_at a0 x7_1
           go_wp2
           go_roundg k1
           case measure => have := HK1.out; omega
           case rel => exact ⟨(wrap64 (x7_1 + 1)), oS, H', ⟨by have := HK1.out; omega⟩, oD⟩
          ·rw [if_neg c10] at H
           have c10b0 : ((bt a0 x7_1) == 46) = false := beq_eq_false_iff_ne.mpr c10
           have c10b1 : ((bt a0 x7_1) != 46) = true := bne_iff_ne.mpr c10
           obtain rfl := Option.some.inj H
           have p5 : (0 ≤ (x7_1 : Int)) = True := oT
           have q5 : (x7_1 < (a0.size : Int)) = True := oT
           have hx5 := bt_at a0 x7_1
           go_wp2
           go_ret
           exact ⟨oS, oD⟩
       ·replace H := itG H
        rcases H with ⟨c11b0, H⟩ | ⟨c11b0, H⟩
        ·by_cases c12 : (bt a0 x7_1) = 95
         ·rw [if_pos c12] at H
          have c12b0 : ((bt a0 x7_1) == 95) = true := beq_iff_eq.mpr c12
          have c12b1 : ((bt a0 x7_1) != 95) = false := bne_eq_false_iff_eq.mpr c12
          clear c12
          have H' := Aside0.mk H
          clear H
          have p5 : (0 ≤ (x7_1 : Int)) = True := oT
          have q5 : (x7_1 < (a0.size : Int)) = True := oT
          have hx5 := bt_at a0 x7_1
          go_wp2
          go_roundg k1
          case measure => have := HK1.out; omega
          case rel => exact ⟨(wrap64 (x7_1 + 1)), oS, H', ⟨by have := HK1.out; omega⟩, oD⟩
         ·rw [if_neg c12] at H
          have c12b0 : ((bt a0 x7_1) == 95) = false := beq_eq_false_iff_ne.mpr c12
          have c12b1 : ((bt a0 x7_1) != 95) = true := bne_iff_ne.mpr c12
          by_cases c13 : (bt a0 x7_1) = 45
          ·rw [if_pos c13] at H
           have c13b0 : ((bt a0 x7_1) == 45) = true := beq_iff_eq.mpr c13
           have c13b1 : ((bt a0 x7_1) != 45) = false := bne_eq_false_iff_eq.mpr c13
           clear c13
           have H' := Aside0.mk H
           clear H
           have p5 : (0 ≤ (x7_1 : Int)) = True := oT
           have q5 : (x7_1 < (a0.size : Int)) = True := oT
           have hx5 := bt_at a0 x7_1
           go_wp2
           go_roundg k1
           case measure => have := HK1.out; omega
           case rel => exact ⟨(wrap64 (x7_1 + 1)), oS, H', ⟨by have := HK1.out; omega⟩, oD⟩
          ·rw [if_neg c13] at H
           have c13b0 : ((bt a0 x7_1) == 45) = false := beq_eq_false_iff_ne.mpr c13
           have c13b1 : ((bt a0 x7_1) != 45) = true := bne_iff_ne.mpr c13
           by_cases c14 : (bt a0 x7_1) = 46
           ·rw [if_pos c14] at H
            have c14b0 : ((bt a0 x7_1) == 46) = true := beq_iff_eq.mpr c14
            have c14b1 : ((bt a0 x7_1) != 46) = false := bne_eq_false_iff_eq.mpr c14
            clear c14
            have H' := Aside0.mk H
            clear H
            have p5 : (0 ≤ (x7_1 : Int)) = True := oT
            have q5 : (x7_1 < (a0.size : Int)) = True := oT
            have hx5 := bt_at a0 x7_1
            go_wp2
            go_roundg k1
            case measure => have := HK1.out; omega
            case rel => exact ⟨(wrap64 (x7_1 + 1)), oS, H', ⟨by have := HK1.out; omega⟩, oD⟩
           ·rw [if_neg c14] at H
            have c14b0 : ((bt a0 x7_1) == 46) = false := beq_eq_false_iff_ne.mpr c14
            have c14b1 : ((bt a0 x7_1) != 46) = true := bne_iff_ne.mpr c14
            obtain rfl := Option.some.inj H
            have p5 : (0 ≤ (x7_1 : Int)) = True := oT
            have q5 : (x7_1 < (a0.size : Int)) = True := oT
            have hx5 := bt_at a0 x7_1
            go_wp2
            go_ret
            exact ⟨oS, oD⟩
        ·have H' := Aside0.mk H
         clear H
         have p5 : (0 ≤ (x7_1 : Int)) = True := oT
         have q5 : (x7_1 < (a0.size : Int)) = True := oT
         have hx5 := bt_at a0 x7_1
         go_wp2
         go_roundg k1
         case measure => have := HK1.out; omega
         case rel => exact ⟨(wrap64 (x7_1 + 1)), oS, H', ⟨by have := HK1.out; omega⟩, oD⟩
      ·replace H := itG H
       rcases H with ⟨c15b0, H⟩ | ⟨c15b0, H⟩
       ·replace H := itD H
        rcases H with ⟨c16b0, H⟩ | ⟨c16b0, H⟩
        ·by_cases c17 : (bt a0 x7_1) = 95
         ·rw [if_pos c17] at H
          have c17b0 : ((bt a0 x7_1) == 95) = true := beq_iff_eq.mpr c17
          have c17b1 : ((bt a0 x7_1) != 95) = false := bne_eq_false_iff_eq.mpr c17
          clear c17
          have H' := Aside0.mk H
          clear H
          have p5 : (0 ≤ (x7_1 : Int)) = True := oT
          have q5 : (x7_1 < (a0.size : Int)) = True := oT
          have hx5 := bt_at a0 x7_1
          go_wp2
          go_roundg k1
          case measure => have := HK1.out; omega
          case rel => exact ⟨(wrap64 (x7_1 + 1)), oS, H', ⟨by have := HK1.out; omega⟩, oD⟩
         ·rw [if_neg c17] at H
          have c17b0 : ((bt a0 x7_1) == 95) = false := beq_eq_false_iff_ne.mpr c17
          have c17b1 : ((bt a0 x7_1) != 95) = true := bne_iff_ne.mpr c17
          by_cases c18 : (bt a0 x7_1) = 45
          ·rw [if_pos c18] at H
           have c18b0 : ((bt a0 x7_1) == 45) = true := beq_iff_eq.mpr c18
           have c18b1 : ((bt a0 x7_1) != 45) = false := bne_eq_false_iff_eq.mpr c18
           clear c18
           have H' := Aside0.mk H
           clear H
           have p5 : (0 ≤ (x7_1 : Int)) = True := oT
           have q5 : (x7_1 < (a0.size : Int)) = True := oT
           have hx5 := bt_at a0 x7_1
           go_wp2
           go_roundg k1
           case measure => have := HK1.out; omega
           case rel => exact ⟨(wrap64 (x7_1 + 1)), oS, H', ⟨by have := HK1.out; omega⟩, oD⟩
          ·rw [if_neg c18] at H
           have c18b0 : ((bt a0 x7_1) == 45) = false := beq_eq_false_iff_ne.mpr c18
           have c18b1 : ((bt a0 x7_1) != 45) = true := bne_iff_ne.mpr c18
           by_cases c19 : (bt a0 x7_1) = 46
           ·rw [if_pos c19] at H
            have c19b0 : ((bt a0 x7_1) == 46) = true := beq_iff_eq.mpr c19
            have c19b1 : ((bt a0 x7_1) != 46) = false := bne_eq_false_iff_eq.mpr c19
            clear c19
            have H' := Aside0.mk H
            clear H
            have p5 : (0 ≤ (x7_1 : Int)) = True := oT
            have q5 : (x7_1 < (a0.size : Int)) = True := oT
            have hx5 := bt_at a0 x7_1
            go_wp2
            go_roundg k1
            case measure => have := HK1.out; omega
            case rel => exact ⟨(wrap64 (x7_1 + 1)), oS, H', ⟨by have := HK1.out; omega⟩, oD⟩
           ·rw [if_neg c19] at H
            have c19b0 : ((bt a0 x7_1) == 46) = false := beq_eq_false_iff_ne.mpr c19
            have c19b1 : ((bt a0 x7_1) != 46) = true := bne_iff_ne.mpr c19
            obtain rfl := Option.some.inj H
            have p5 : (0 ≤ (x7_1 : Int)) = True := oT
            have q5 : (x7_1 < (a0.size : Int)) = True := oT
            have hx5 := bt_at a0 x7_1
            go_wp2
            go_ret
            exact ⟨oS, oD⟩
        ·replace H := itG H
         rcases H with ⟨c20b0, H⟩ | ⟨c20b0, H⟩
         ·by_cases c21 : (bt a0 x7_1) = 95
          ·rw [if_pos c21] at H
           have c21b0 : ((bt a0 x7_1) == 95) = true := beq_iff_eq.mpr c21
           have c21b1 : ((bt a0 x7_1) != 95) = false := bne_eq_false_iff_eq.mpr c21
           clear c21
           have H' := Aside0.mk H
           clear H
           have p5 : (0 ≤ (x7_1 : Int)) = True := oT
           have q5 : (x7_1 < (a0.size : Int)) = True := oT
           have hx5 := bt_at a0 x7_1
           go_wp2
           go_roundg k1
           case measure => have := HK1.out; omega
           case rel => exact ⟨(wrap64 (x7_1 + 1)), oS, H', ⟨by have := HK1.out; omega⟩, oD⟩
          ·rw [if_neg c21] at H
           have c21b0 : ((bt a0 x7_1) == 95) = false := beq_eq_false_iff_ne.mpr c21
           have c21b1 : ((bt a0 x7_1) != 95) = true := bne_iff_ne.mpr c21
           by_cases c22 : (bt a0 x7_1) = 45
           ·rw [if_pos c22] at H
            have c22b0 : ((bt a0 x7_1) == 45) = true := beq_iff_eq.mpr c22
            have c22b1 : ((bt a0 x7_1) != 45) = false := bne_eq_false_iff_eq.mpr c22
            clear c22
            have H' := Aside0.mk H
            clear H
            have p5 : (0 ≤ (x7_1 : Int)) = True := oT
            have q5 : (x7_1 < (a0.size : Int)) = True := oT
            have hx5 := bt_at a0 x7_1
            go_wp2
            go_roundg k1
            case measure => have := HK1.out; omega
            case rel => exact ⟨(wrap64 (x7_1 + 1)), oS, H', ⟨by have := HK1.out; omega⟩, oD⟩
           ·rw [if_neg c22] at H
            have c22b0 : ((bt a0 x7_1) == 45) = false := beq_eq_false_iff_ne.mpr c22
            have c22b1 : ((bt a0 x7_1) != 45) = true := bne_iff_ne.mpr c22
            by_cases c23 : (bt a0 x7_1) = 46
            ·rw [if_pos c23] at H
             have c23b0 : ((bt a0 x7_1) == 46) = true := beq_iff_eq.mpr c23
             have c23b1 : ((bt a0 x7_1) != 46) = false := bne_eq_false_iff_eq.mpr c23
             clear c23
             have H' := Aside0.mk H
             clear H
             have p5 : (0 ≤ (x7_1 : Int)) = True := oT
             have q5 : (x7_1 < (a0.size : Int)) = True := oT
             have hx5 := bt_at a0 x7_1
             go_wp2
             go_roundg k1
             case measure => have := HK1.out; omega
             case rel => exact ⟨(wrap64 (x7_1 + 1)), oS, H', ⟨by have := HK1.out; omega⟩, oD⟩
            ·rw [if_neg c23] at H
             have c23b0 : ((bt a0 x7_1) == 46) = false := beq_eq_false_iff_ne.mpr c23
             have c23b1 : ((bt a0 x7_1) != 46) = true := bne_iff_ne.mpr c23
             obtain rfl := Option.some.inj H
             have p5 : (0 ≤ (x7_1 : Int)) = True := oT
             have q5 : (x7_1 < (a0.size : Int)) = True := oT
             have hx5 := bt_at a0 x7_1
             go_wp2
             go_ret
             exact ⟨oS, oD⟩
         ·have H' := Aside0.mk H
          clear H
          have p5 : (0 ≤ (x7_1 : Int)) = True := oT
          have q5 : (x7_1 < (a0.size : Int)) = True := oT
          have hx5 := bt_at a0 x7_1
          go_wp2
          go_roundg k1
          case measure => have := HK1.out; omega
          case rel => exact ⟨(wrap64 (x7_1 + 1)), oS, H', ⟨by have := HK1.out; omega⟩, oD⟩
       ·have H' := Aside0.mk H
        clear H
        have p5 : (0 ≤ (x7_1 : Int)) = True := oT
        have q5 : (x7_1 < (a0.size : Int)) = True := oT
        have hx5 := bt_at a0 x7_1
        go_wp2
        go_roundg k1
        case measure => have := HK1.out; omega
        case rel => exact ⟨(wrap64 (x7_1 + 1)), oS, H', ⟨by have := HK1.out; omega⟩, oD⟩
     ·cases H
    ·cases H
   ·by_cases c24 : (a0.size : Int) ≥ 1
    ·rw [if_pos c24] at H
     have c24b0 : decide (1 ≤ (a0.size : Int)) = true := decide_eq_true c24
     have c24b1 : decide (1 ≤ a0.size) = true := decide_eq_true (by omega)
     clear c24
     by_cases c25 : (a0.size : Int) ≤ 14
     ·rw [if_pos c25] at H
      have c25b0 : decide ((a0.size : Int) ≤ 14) = true := decide_eq_true c25
      have c25b1 : decide (a0.size ≤ 14) = true := decide_eq_true (by omega)
      clear c25
      by_cases c26 : a0.toList = ([46] : List UInt8)
      ·rw [if_pos c26] at H
       have c26b0 : (a0.toList == ([46] : List UInt8)) = true := beq_iff_eq.mpr c26
       have c26b1 : (a0.toList != ([46] : List UInt8)) = false := bne_eq_false_iff_eq.mpr c26
       clear c26
       obtain rfl := Option.some.inj H
       go_wp2
       go_ret
       exact ⟨oS, oD⟩
      ·rw [if_neg c26] at H
       have c26b0 : (a0.toList == ([46] : List UInt8)) = false := beq_eq_false_iff_ne.mpr c26
       have c26b1 : (a0.toList != ([46] : List UInt8)) = true := bne_iff_ne.mpr c26
       obtain rfl := Option.some.inj H
       go_wp2
       go_ret
       exact ⟨oS, oD⟩
     ·rw [if_neg c25] at H
      have c25b0 : decide ((a0.size : Int) ≤ 14) = false := decide_eq_false c25
      have c25b1 : decide (a0.size ≤ 14) = false := decide_eq_false (by omega)
      clear c25
      obtain rfl := Option.some.inj H
      go_wp2
      go_ret
      exact ⟨oS, oD⟩
    ·rw [if_neg c24] at H
     have c24b0 : decide (1 ≤ (a0.size : Int)) = false := decide_eq_false c24
     have c24b1 : decide (1 ≤ a0.size) = false := decide_eq_false (by omega)
     clear c24
     obtain rfl := Option.some.inj H
     go_wp2
     go_ret
     exact ⟨oS, oD⟩

/-! ### laws_big: function 11 -/
def laws_big.f (l0 : List Int) : Option (Bool) := some (decide ((l0.length : Int) > 1048576))
set_option maxHeartbeats 8000000 in
set_option maxRecDepth 100000 in
theorem laws_big.calls (A0 : Option Addr) (c0 : Nat) (l0 : List Int) (r : Bool) (w : World) (hr0 : Kd.C (Kd.int .u8) w A0 l0.length l0) (hc0 : l0.length ≤ c0) (h : laws_big.f l0 = some r) :
  Calls Tryz.prog 11 #[.slice A0 l0.length c0] w fun e w' => e = .returned (.bool r) ∧ Drawn0 w w' := by
 have HR0 := Aside0.mk hr0
 have HC0 := Aside0.mk hc0
 clear hr0 hc0
 unfold laws_big.f at h
 have H := h
 clear h
 obtain rfl := Option.some.inj H
 go_enter Tryz.func11, Tryz.ntmps11
 go_wp2
 go_ret
 exact ⟨oS, oD⟩

/-! ### laws_at: function 20 -/
def laws_at.f (l0 : List Int) (a1 : Int) : Option (Int) := if a1 < (l0.length : Int) then (if 0 ≤ a1 then (some (wrap64 (rd l0 a1))) else (none)) else (some (Int.tmod (wrap64 ((wrap64 (a1 * 31)) + (wrap64 ((l0.length : Int) * 7)))) 256))
set_option maxHeartbeats 8000000 in
set_option maxRecDepth 100000 in
theorem laws_at.calls (A0 : Option Addr) (c0 : Nat) (l0 : List Int) (a1 : Int) (r : Int) (w : World) (hr0 : Kd.C (Kd.int .u8) w A0 l0.length l0) (hc0 : l0.length ≤ c0) (h : laws_at.f l0 a1 = some r) :
  Calls Tryz.prog 20 #[.slice A0 l0.length c0, .int .i64 a1] w fun e w' => e = .returned (.int .i64 r) ∧ Drawn0 w w' := by
 have HR0 := Aside0.mk hr0
 have HC0 := Aside0.mk hc0
 clear hr0 hc0
 unfold laws_at.f at h
 have H := h
 clear h
 replace H := itD H
 rcases H with ⟨c3b0, H⟩ | ⟨c3b0, H⟩
 ·replace H := itD H
  rcases H with ⟨c4b0, H⟩ | ⟨c4b0, H⟩
  ·obtain rfl := Option.some.inj H
   have p101 : (0 ≤ (a1 : Int)) = True := oT
   have q101 : (a1 < (l0.length : Int)) = True := oT
   obtain ⟨ad101, e101, hx101_0⟩ := Kd.at_int HR0.out a1 oa oa
   cases e101
   go_enter Tryz.func20, Tryz.ntmps20
   go_wp2
   go_ret
   exact ⟨oS, oD⟩
  ·cases H
 ·obtain rfl := Option.some.inj H
  go_enter Tryz.func20, Tryz.ntmps20
  go_wp2
  go_ret
  exact ⟨oS, oD⟩

/-! ### laws_slash: function 13 -/
def laws_slash.f (l0 : List Int) (a1 : Int) : Option (ByteArray) := (laws_at.f l0 a1).bind fun t102 => ((some (([(wrap64 (97 + (Int.tmod t102 26))) % 256] : List Int) : List Int)).bind fun y103 => (if 1 + (strOfNums y103).size ≤ 9223372036854775807 then (some ((⟨#[47]⟩ : ByteArray) ++ (strOfNums y103))) else (none)))
set_option maxHeartbeats 8000000 in
set_option maxRecDepth 100000 in
theorem laws_slash.calls (A0 : Option Addr) (c0 : Nat) (l0 : List Int) (a1 : Int) (r : ByteArray) (w : World) (hr0 : Kd.C (Kd.int .u8) w A0 l0.length l0) (hc0 : l0.length ≤ c0) (h : laws_slash.f l0 a1 = some r) :
  Calls Tryz.prog 13 #[.slice A0 l0.length c0, .int .i64 a1] w fun e w' => e = .returned (.string r) ∧ Below w.heap.size w w' := by
 have HR0 := Aside0.mk hr0
 have HC0 := Aside0.mk hc0
 clear hr0 hc0
 have HB := Aside0.mk (Below.refl w.heap.size w)
 unfold laws_slash.f at h
 have H := h
 clear h
 replace H := bA H
 obtain ⟨t102, A3, H⟩ := H
 try dsimp only at H
 obtain ⟨y103, hy103⟩ : ∃ y_ : List Int, y_ = (([(wrap64 (97 + (Int.tmod t102 26))) % 256] : List Int)) := ⟨_, rfl⟩
 replace H : (if 1 + (strOfNums y103).size ≤ 9223372036854775807 then (some ((⟨#[47]⟩ : ByteArray) ++ (strOfNums y103))) else (none)) = some r := by first | (rw [hy103]; with_reducible exact H) | (have H2_ := (Option.bind_some _ _).symm.trans H; rw [hy103]; with_reducible exact H2_) | (have H2_ := (Option.bind_some _ _).symm.trans H; with_reducible exact H2_) | with_reducible exact H | (rw [hy103]; exact H) | exact H
 have Ny103 := Aside0.mk hy103
 clear hy103
 by_cases c4 : 1 + (strOfNums y103).size ≤ 9223372036854775807
 ·rw [if_pos c4] at H
  have c4b0 := eq_true c4
  have c4b1 : decide (1 + (strOfNums y103).size ≤ 9223372036854775807) = true := decide_eq_true c4
  try have c4b2 : (9223372036854775807 < 1 + (strOfNums y103).size) = False := eq_false (Nat.not_lt.2 c4)
  obtain rfl := Option.some.inj H
  go_enter Tryz.func13, Tryz.ntmps13
  go_wp2_with (first | ((with_reducible refine gate_callee (f := 20) rfl ?_); refine gl_ 7 Tryz.func20 (laws_at.calls _ _ l0 a1 t102 _ (kD HR0) HC0.out A3.out) ?_; rintro e w' ⟨rfl, ⟨nd, rfl⟩⟩; refine ⟨_, rfl, ?_⟩) | ((with_reducible refine gate_dst (N := 11) rfl ?_); refine Kd.R_lit (Kd.int .u8) _ 5 ?hg (N := 11) ?hd (xs := ([(wrap64 (97 + (Int.tmod t102 26))) % 256] : List Int)) (inner := [.int .u8 ((wrap64 (97 + (Int.tmod t102 26))) % 256)]) (ok := fun _ => True) (okp := fun _ => True) ?hr ?hp (fun _ hk => hk) trivial (Below.refl _ _) (Nat.le_refl _) (by simp) ?_; (case hd => rfl); (case hg => rfl); (case hr => first | (go_simp; done) | (go_simp; rfl)); (case hp => exact (Reps.one (show Kd.M (Kd.int .u8) _ _ _ ((wrap64 (97 + (Int.tmod t102 26))) % 256) [.int .u8 ((wrap64 (97 + (Int.tmod t102 26))) % 256)] from rfl) (Reps.none _ _))); intro v104 w5 ho6 hb hg_ hnew_; clear hg_ hnew_; (first | rw [← Ny103.out] at ho6 | (simp only [Int.reduceToNat] at ho6; rw [← Ny103.out] at ho6)); have HO105 := Aside0.mk (Kd.R_lower ho6 (below_size oB)); replace HB := Aside0.mk (below_step oB hb); clear hb ho6; have hcv7 := own_string (P := Tryz.prog) Tryz.underlying22 Tryz.underlying5 Tryz.underlying9 (Kd.own_of_R HO105.out)))
  go_ret
  exact ⟨oE, oB⟩
 ·rw [if_neg c4] at H
  exact absurd H (by simp)

/-! ### slices_Clone_byte_byte: function 51 -/
def slices_Clone_byte_byte.f (l0 : List Int) : Option (List Int) := (some (([] : List Int) : List Int)).bind fun y106 => (if y106.length + l0.length < 140737488355328 then (some (y106 ++ l0)) else (none))
set_option maxHeartbeats 8000000 in
set_option maxRecDepth 100000 in
theorem slices_Clone_byte_byte.calls_some (a0_ : Addr) (c0 : Nat) (l0 : List Int) (r : List Int) (w : World) (hr0 : Kd.C (Kd.int .u8) w (some a0_) l0.length l0) (hc0 : l0.length ≤ c0) (h : slices_Clone_byte_byte.f l0 = some r) :
  Calls Tryz.prog 51 #[.slice (some a0_) l0.length c0] w fun e w' => ∃ v0_ : Value, e = .returned (v0_) ∧ Kd.R (Kd.int .u8) 5 w' w.heap.size (fun _ => True) v0_ r ∧ Below w.heap.size w w' := by
 have HR0 := Aside0.mk hr0
 have HC0 := Aside0.mk hc0
 clear hr0 hc0
 have HB := Aside0.mk (Below.refl w.heap.size w)
 unfold slices_Clone_byte_byte.f at h
 have H := h
 clear h
 obtain ⟨y106, hy106⟩ : ∃ y_ : List Int, y_ = (([] : List Int)) := ⟨_, rfl⟩
 replace H : (if y106.length + l0.length < 140737488355328 then (some (y106 ++ l0)) else (none)) = some r := by first | (rw [hy106]; with_reducible exact H) | (have H2_ := (Option.bind_some _ _).symm.trans H; rw [hy106]; with_reducible exact H2_) | (have H2_ := (Option.bind_some _ _).symm.trans H; with_reducible exact H2_) | with_reducible exact H | (rw [hy106]; exact H) | exact H
 have Ny106 := Aside0.mk hy106
 clear hy106
 by_cases c2 : y106.length + l0.length < 140737488355328
 ·rw [if_pos c2] at H
  have LMc2 := Aside0.mk c2
  clear c2
  obtain ⟨y109, hy109⟩ : ∃ y_ : List Int, y_ = (y106 ++ l0) := ⟨_, rfl⟩
  replace H : (some y109) = some r := by first | (rw [hy109]; with_reducible exact H) | (have H2_ := (Option.bind_some _ _).symm.trans H; rw [hy109]; with_reducible exact H2_) | (have H2_ := (Option.bind_some _ _).symm.trans H; with_reducible exact H2_) | with_reducible exact H | (rw [hy109]; exact H) | exact H
  have Ny109 := Aside0.mk hy109
  clear hy109
  obtain rfl := Option.some.inj H
  have hq_ := Lib.run_eql_slice_nil (P := Tryz.prog) w 22 5 (some a0_) l0.length c0 0 0 (by kernel_rfl)
  go_enter Tryz.func51, Tryz.ntmps51
  go_wp2_with (first | ((with_reducible refine gate_dst (N := 5) rfl ?_); refine Kd.R_lit (Kd.int .u8) _ 5 ?hg (N := 5) ?hd (xs := ([] : List Int)) (inner := []) (ok := fun _ => True) (okp := fun _ => True) ?hr ?hp (fun _ hk => hk) trivial (Below.refl _ _) (Nat.le_refl _) (by simp) ?_; (case hd => rfl); (case hg => rfl); (case hr => first | (go_simp; done) | (go_simp; rfl)); (case hp => exact (Reps.none _ _)); intro v107 w3 ho4 hb hg_ hnew_; clear hg_ hnew_; (first | rw [← Ny106.out] at ho4 | (simp only [Int.reduceToNat] at ho4; rw [← Ny106.out] at ho4)); have HO108 := Aside0.mk (Kd.R_lower ho4 (below_size oB)); replace HB := Aside0.mk (below_step oB hb); clear hb ho4) | ((with_reducible refine gate_builtin (b := .append) (xs := #[.tmp 5, .tmp 6]) rfl ?_); at_builtin; refine Kd.R_append_rows (Kd.int .u8) (w0 := w) w.heap.size rfl (.tmp 5) (.tmp 6) 22 5 (.int .u8 0) 1 rfl Tryz.underlying22 info5 rfl (by decide) (by omega) v107 y106 l0 _ _ _ (fun _ => True) (fun _ => False) rfl rfl ?aO ?aR (fun _ _ h => h) (fun _ h => h.elim) ?aF ?aB ?aS ?aL ?_; (case aR => repeat (first | exact (Kd.C_below HR0.out HB.out) | (with_reducible refine Kd.C_alloc ?_ _) | (with_reducible refine Kd.C_drewN ?_ _) | (with_reducible refine Kd.C_drew ?_))); (case aB => exact oB); (case aF => exact (fun _ _ => trivial)); (case aO => exact (oR HO108)); (case aS => exact (below_size oB)); (case aL => have := LMc2.out; omega); intro v110 w5 ho hb hg hat; rw [← Ny109.out] at ho; have HO111 := Aside0.mk (ho); replace HB := Aside0.mk (hb); clear HO108; clear ho hb hg hat))
  go_ret
  exact ⟨_, oE, oR HO111, oB⟩
 ·rw [if_neg c2] at H
  exact absurd H (by simp)

set_option maxHeartbeats 8000000 in
set_option maxRecDepth 100000 in
theorem slices_Clone_byte_byte.calls (A0 : Option Addr) (c0 : Nat) (l0 : List Int) (r : List Int) (w : World) (hr0 : Kd.C (Kd.int .u8) w A0 l0.length l0) (hc0 : l0.length ≤ c0) (h : slices_Clone_byte_byte.f l0 = some r) :
  Calls Tryz.prog 51 #[.slice A0 l0.length c0] w fun e w' => ∃ v0_ : Value, e = .returned (v0_) ∧ Kd.R (Kd.int .u8) 5 w' w.heap.size (fun _ => True) v0_ r ∧ Below w.heap.size w w' := by
 rcases A0 with _ | a0_
 ·have hl_ : l0 = [] := by
   rcases Nat.eq_zero_or_pos l0.length with hz_ | hz_
   ·exact List.eq_nil_of_length_eq_zero hz_
   ·obtain ⟨ad_, he_, _⟩ := hr0.2.2 hz_
    cases he_
  subst hl_
  obtain rfl : r = [] := by
   simp [slices_Clone_byte_byte.f] at h
   exact h
  have hq_ := Lib.run_eql_slice_nil (P := Tryz.prog) w 22 5 none 0 c0 0 0 (by kernel_rfl)
  go_enter Tryz.func51, Tryz.ntmps51
  go_wp2
  go_ret
  exact ⟨_, rfl, Kd.R_nil _ _ _ _ _, Below.refl _ _⟩
 ·exact slices_Clone_byte_byte.calls_some a0_ c0 l0 r w hr0 hc0 h

/-! ### slices_Clone_Ent: function 82 -/
def slices_Clone_Ent.f (l0 : List (S65)) : Option ((List (S65))) := (some (([] : List (S65)) : List (S65))).bind fun y112 => (if y112.length + l0.length < 5864062014805 then (some (y112 ++ l0)) else (none))
set_option maxHeartbeats 8000000 in
set_option maxRecDepth 100000 in
theorem slices_Clone_Ent.calls_some (a0_ : Addr) (c0 : Nat) (l0 : List (S65)) (r : List (S65)) (w : World) (hr0 : Kd.C k65 w (some a0_) l0.length l0) (hc0 : l0.length ≤ c0) (h : slices_Clone_Ent.f l0 = some r) :
  Calls Tryz.prog 82 #[.slice (some a0_) l0.length c0] w fun e w' => ∃ v0_ : Value, e = .returned (v0_) ∧ Kd.R k65 65 w' w.heap.size (fun _ => True) v0_ r ∧ Below w.heap.size w w' := by
 have HR0 := Aside0.mk hr0
 have HC0 := Aside0.mk hc0
 clear hr0 hc0
 have HB := Aside0.mk (Below.refl w.heap.size w)
 unfold slices_Clone_Ent.f at h
 have H := h
 clear h
 obtain ⟨y112, hy112⟩ : ∃ y_ : List (S65), y_ = (([] : List (S65))) := ⟨_, rfl⟩
 replace H : (if y112.length + l0.length < 5864062014805 then (some (y112 ++ l0)) else (none)) = some r := by first | (rw [hy112]; with_reducible exact H) | (have H2_ := (Option.bind_some _ _).symm.trans H; rw [hy112]; with_reducible exact H2_) | (have H2_ := (Option.bind_some _ _).symm.trans H; with_reducible exact H2_) | with_reducible exact H | (rw [hy112]; exact H) | exact H
 have Ny112 := Aside0.mk hy112
 clear hy112
 by_cases c2 : y112.length + l0.length < 5864062014805
 ·rw [if_pos c2] at H
  have LMc2 := Aside0.mk c2
  clear c2
  obtain ⟨y115, hy115⟩ : ∃ y_ : List (S65), y_ = (y112 ++ l0) := ⟨_, rfl⟩
  replace H : (some y115) = some r := by first | (rw [hy115]; with_reducible exact H) | (have H2_ := (Option.bind_some _ _).symm.trans H; rw [hy115]; with_reducible exact H2_) | (have H2_ := (Option.bind_some _ _).symm.trans H; with_reducible exact H2_) | with_reducible exact H | (rw [hy115]; exact H) | exact H
  have Ny115 := Aside0.mk hy115
  clear hy115
  obtain rfl := Option.some.inj H
  have hq_ := Lib.run_eql_slice_nil (P := Tryz.prog) w 48 65 (some a0_) l0.length c0 0 0 (by kernel_rfl)
  go_enter Tryz.func82, Tryz.ntmps82
  go_wp2_with (first | ((with_reducible refine gate_dst (N := 5) rfl ?_); refine Kd.R_lit k65 _ 65 ?hg (N := 5) ?hd (xs := ([] : List (S65))) (inner := []) (ok := fun _ => True) (okp := fun _ => True) ?hr ?hp (fun _ hk => hk) trivial (Below.refl _ _) (Nat.le_refl _) (by simp) ?_; (case hd => rfl); (case hg => rfl); (case hr => first | (go_simp; done) | (go_simp; rfl)); (case hp => exact (Reps.none _ _)); intro v113 w3 ho4 hb hg_ hnew_; clear hg_ hnew_; (first | rw [← Ny112.out] at ho4 | (simp only [Int.reduceToNat] at ho4; rw [← Ny112.out] at ho4)); have HO114 := Aside0.mk (Kd.R_lower ho4 (below_size oB)); replace HB := Aside0.mk (below_step oB hb); clear hb ho4) | ((with_reducible refine gate_builtin (b := .append) (xs := #[.tmp 5, .tmp 6]) rfl ?_); at_builtin; refine Kd.R_append_rows k65 (w0 := w) w.heap.size rfl (.tmp 5) (.tmp 6) 48 65 (.agg #[(.string ⟨#[]⟩), (.int .i64 0)]) 24 rfl Tryz.underlying48 info65 rfl (by decide) (by omega) v113 y112 l0 _ _ _ (fun _ => True) (fun _ => False) rfl rfl ?aO ?aR (fun _ _ h => h) (fun _ h => h.elim) ?aF ?aB ?aS ?aL ?_; (case aR => repeat (first | exact (Kd.C_below HR0.out HB.out) | (with_reducible refine Kd.C_alloc ?_ _) | (with_reducible refine Kd.C_drewN ?_ _) | (with_reducible refine Kd.C_drew ?_))); (case aB => exact oB); (case aF => exact (fun _ _ => trivial)); (case aO => exact (oR HO114)); (case aS => exact (below_size oB)); (case aL => have := LMc2.out; omega); intro v116 w5 ho hb hg hat; rw [← Ny115.out] at ho; have HO117 := Aside0.mk (ho); replace HB := Aside0.mk (hb); clear HO114; clear ho hb hg hat))
  go_ret
  exact ⟨_, oE, oR HO117, oB⟩
 ·rw [if_neg c2] at H
  exact absurd H (by simp)

set_option maxHeartbeats 8000000 in
set_option maxRecDepth 100000 in
theorem slices_Clone_Ent.calls (A0 : Option Addr) (c0 : Nat) (l0 : List (S65)) (r : List (S65)) (w : World) (hr0 : Kd.C k65 w A0 l0.length l0) (hc0 : l0.length ≤ c0) (h : slices_Clone_Ent.f l0 = some r) :
  Calls Tryz.prog 82 #[.slice A0 l0.length c0] w fun e w' => ∃ v0_ : Value, e = .returned (v0_) ∧ Kd.R k65 65 w' w.heap.size (fun _ => True) v0_ r ∧ Below w.heap.size w w' := by
 rcases A0 with _ | a0_
 ·have hl_ : l0 = [] := by
   rcases Nat.eq_zero_or_pos l0.length with hz_ | hz_
   ·exact List.eq_nil_of_length_eq_zero hz_
   ·obtain ⟨ad_, he_, _⟩ := hr0.2.2 hz_
    cases he_
  subst hl_
  obtain rfl : r = [] := by
   simp [slices_Clone_Ent.f] at h
   exact h
  have hq_ := Lib.run_eql_slice_nil (P := Tryz.prog) w 48 65 none 0 c0 0 0 (by kernel_rfl)
  go_enter Tryz.func82, Tryz.ntmps82
  go_wp2
  go_ret
  exact ⟨_, rfl, Kd.R_nil _ _ _ _ _, Below.refl _ _⟩
 ·exact slices_Clone_Ent.calls_some a0_ c0 l0 r w hr0 hc0 h

/-! ### slices_Clone_Attr: function 95 -/
def slices_Clone_Attr.f (l0 : List (S71)) : Option ((List (S71))) := (some (([] : List (S71)) : List (S71))).bind fun y118 => (if y118.length + l0.length < 4398046511104 then (some (y118 ++ l0)) else (none))
set_option maxHeartbeats 8000000 in
set_option maxRecDepth 100000 in
theorem slices_Clone_Attr.calls_some (a0_ : Addr) (c0 : Nat) (l0 : List (S71)) (r : List (S71)) (w : World) (hr0 : Kd.C k71 w (some a0_) l0.length l0) (hc0 : l0.length ≤ c0) (h : slices_Clone_Attr.f l0 = some r) :
  Calls Tryz.prog 95 #[.slice (some a0_) l0.length c0] w fun e w' => ∃ v0_ : Value, e = .returned (v0_) ∧ Kd.R k71 71 w' w.heap.size (fun _ => True) v0_ r ∧ Below w.heap.size w w' := by
 have HR0 := Aside0.mk hr0
 have HC0 := Aside0.mk hc0
 clear hr0 hc0
 have HB := Aside0.mk (Below.refl w.heap.size w)
 unfold slices_Clone_Attr.f at h
 have H := h
 clear h
 obtain ⟨y118, hy118⟩ : ∃ y_ : List (S71), y_ = (([] : List (S71))) := ⟨_, rfl⟩
 replace H : (if y118.length + l0.length < 4398046511104 then (some (y118 ++ l0)) else (none)) = some r := by first | (rw [hy118]; with_reducible exact H) | (have H2_ := (Option.bind_some _ _).symm.trans H; rw [hy118]; with_reducible exact H2_) | (have H2_ := (Option.bind_some _ _).symm.trans H; with_reducible exact H2_) | with_reducible exact H | (rw [hy118]; exact H) | exact H
 have Ny118 := Aside0.mk hy118
 clear hy118
 by_cases c2 : y118.length + l0.length < 4398046511104
 ·rw [if_pos c2] at H
  have LMc2 := Aside0.mk c2
  clear c2
  obtain ⟨y121, hy121⟩ : ∃ y_ : List (S71), y_ = (y118 ++ l0) := ⟨_, rfl⟩
  replace H : (some y121) = some r := by first | (rw [hy121]; with_reducible exact H) | (have H2_ := (Option.bind_some _ _).symm.trans H; rw [hy121]; with_reducible exact H2_) | (have H2_ := (Option.bind_some _ _).symm.trans H; with_reducible exact H2_) | with_reducible exact H | (rw [hy121]; exact H) | exact H
  have Ny121 := Aside0.mk hy121
  clear hy121
  obtain rfl := Option.some.inj H
  have hq_ := Lib.run_eql_slice_nil (P := Tryz.prog) w 49 71 (some a0_) l0.length c0 0 0 (by kernel_rfl)
  go_enter Tryz.func95, Tryz.ntmps95
  go_wp2_with (first | ((with_reducible refine gate_dst (N := 5) rfl ?_); refine Kd.R_lit k71 _ 71 ?hg (N := 5) ?hd (xs := ([] : List (S71))) (inner := []) (ok := fun _ => True) (okp := fun _ => True) ?hr ?hp (fun _ hk => hk) trivial (Below.refl _ _) (Nat.le_refl _) (by simp) ?_; (case hd => rfl); (case hg => rfl); (case hr => first | (go_simp; done) | (go_simp; rfl)); (case hp => exact (Reps.none _ _)); intro v119 w3 ho4 hb hg_ hnew_; clear hg_ hnew_; (first | rw [← Ny118.out] at ho4 | (simp only [Int.reduceToNat] at ho4; rw [← Ny118.out] at ho4)); have HO120 := Aside0.mk (Kd.R_lower ho4 (below_size oB)); replace HB := Aside0.mk (below_step oB hb); clear hb ho4) | ((with_reducible refine gate_builtin (b := .append) (xs := #[.tmp 5, .tmp 6]) rfl ?_); at_builtin; refine Kd.R_append_rows k71 (w0 := w) w.heap.size rfl (.tmp 5) (.tmp 6) 49 71 (.agg #[(.string ⟨#[]⟩), (.string ⟨#[]⟩)]) 32 rfl Tryz.underlying49 info71 rfl (by decide) (by omega) v119 y118 l0 _ _ _ (fun _ => True) (fun _ => False) rfl rfl ?aO ?aR (fun _ _ h => h) (fun _ h => h.elim) ?aF ?aB ?aS ?aL ?_; (case aR => repeat (first | exact (Kd.C_below HR0.out HB.out) | (with_reducible refine Kd.C_alloc ?_ _) | (with_reducible refine Kd.C_drewN ?_ _) | (with_reducible refine Kd.C_drew ?_))); (case aB => exact oB); (case aF => exact (fun _ _ => trivial)); (case aO => exact (oR HO120)); (case aS => exact (below_size oB)); (case aL => have := LMc2.out; omega); intro v122 w5 ho hb hg hat; rw [← Ny121.out] at ho; have HO123 := Aside0.mk (ho); replace HB := Aside0.mk (hb); clear HO120; clear ho hb hg hat))
  go_ret
  exact ⟨_, oE, oR HO123, oB⟩
 ·rw [if_neg c2] at H
  exact absurd H (by simp)

set_option maxHeartbeats 8000000 in
set_option maxRecDepth 100000 in
theorem slices_Clone_Attr.calls (A0 : Option Addr) (c0 : Nat) (l0 : List (S71)) (r : List (S71)) (w : World) (hr0 : Kd.C k71 w A0 l0.length l0) (hc0 : l0.length ≤ c0) (h : slices_Clone_Attr.f l0 = some r) :
  Calls Tryz.prog 95 #[.slice A0 l0.length c0] w fun e w' => ∃ v0_ : Value, e = .returned (v0_) ∧ Kd.R k71 71 w' w.heap.size (fun _ => True) v0_ r ∧ Below w.heap.size w w' := by
 rcases A0 with _ | a0_
 ·have hl_ : l0 = [] := by
   rcases Nat.eq_zero_or_pos l0.length with hz_ | hz_
   ·exact List.eq_nil_of_length_eq_zero hz_
   ·obtain ⟨ad_, he_, _⟩ := hr0.2.2 hz_
    cases he_
  subst hl_
  obtain rfl : r = [] := by
   simp [slices_Clone_Attr.f] at h
   exact h
  have hq_ := Lib.run_eql_slice_nil (P := Tryz.prog) w 49 71 none 0 c0 0 0 (by kernel_rfl)
  go_enter Tryz.func95, Tryz.ntmps95
  go_wp2
  go_ret
  exact ⟨_, rfl, Kd.R_nil _ _ _ _ _, Below.refl _ _⟩
 ·exact slices_Clone_Attr.calls_some a0_ c0 l0 r w hr0 hc0 h

/-! ### impl_copyInode: function 71 -/
def impl_copyInode.f (a0_0 : Int) (a0_1 : Int) (a0_2 : Int) (l0_3 : List Int) (l0_4 : List (S65)) (l0_5 : List (S71)) : Option (Int × Int × Int × List Int × (List (S65)) × (List (S71))) := (slices_Clone_byte_byte.f l0_3).bind fun t126 => ((slices_Clone_Ent.f l0_4).bind fun t129 => ((slices_Clone_Attr.f l0_5).bind fun t132 => (some (a0_0, a0_1, a0_2, t126, t129, t132))))
set_option maxHeartbeats 8000000 in
set_option maxRecDepth 100000 in
theorem impl_copyInode.calls (a0_0 : Int) (a0_1 : Int) (a0_2 : Int) (A0_3 : Option Addr) (c0_3 : Nat) (l0_3 : List Int) (A0_4 : Option Addr) (c0_4 : Nat) (l0_4 : List (S65)) (A0_5 : Option Addr) (c0_5 : Nat) (l0_5 : List (S71)) (r1 : Int) (r2 : Int) (r3 : Int) (r4 : List Int) (r5 : List (S65)) (r6 : List (S71)) (w : World) (hr0_3 : Kd.C (Kd.int .u8) w A0_3 l0_3.length l0_3) (hc0_3 : l0_3.length ≤ c0_3) (hr0_4 : Kd.C k65 w A0_4 l0_4.length l0_4) (hc0_4 : l0_4.length ≤ c0_4) (hr0_5 : Kd.C k71 w A0_5 l0_5.length l0_5) (hc0_5 : l0_5.length ≤ c0_5) (h : impl_copyInode.f a0_0 a0_1 a0_2 l0_3 l0_4 l0_5 = some (r1, r2, r3, r4, r5, r6)) :
  Calls Tryz.prog 71 #[.agg #[.int .i64 a0_0, .int .i64 a0_1, .int .i64 a0_2, .slice A0_3 l0_3.length c0_3, .slice A0_4 l0_4.length c0_4, .slice A0_5 l0_5.length c0_5]] w fun e w' => ∃ v3_ v4_ v5_ : Value, e = .returned (.agg #[.int .i64 r1, .int .i64 r2, .int .i64 r3, v3_, v4_, v5_]) ∧ Kd.R (Kd.int .u8) 5 w' w.heap.size (fun _ => True) v3_ r4 ∧ Kd.R k65 65 w' w.heap.size (fun _ => True) v4_ r5 ∧ Kd.R k71 71 w' w.heap.size (fun _ => True) v5_ r6 ∧ Below w.heap.size w w' := by
 have hu51 := Tryz.underlying51
 have HR0_3 := Aside0.mk hr0_3
 have HC0_3 := Aside0.mk hc0_3
 clear hr0_3 hc0_3
 have HR0_4 := Aside0.mk hr0_4
 have HC0_4 := Aside0.mk hc0_4
 clear hr0_4 hc0_4
 have HR0_5 := Aside0.mk hr0_5
 have HC0_5 := Aside0.mk hc0_5
 clear hr0_5 hc0_5
 have HB := Aside0.mk (Below.refl w.heap.size w)
 unfold impl_copyInode.f at h
 have H := h
 clear h
 replace H := bA H
 obtain ⟨t126, A2, H⟩ := H
 try dsimp only at H
 replace H := bA H
 obtain ⟨t129, A3, H⟩ := H
 try dsimp only at H
 replace H := bA H
 obtain ⟨t132, A4, H⟩ := H
 try dsimp only at H
 simp only [Option.some.injEq, Prod.mk.injEq] at H
 obtain ⟨rfl, rfl, rfl, rfl, rfl, rfl⟩ := H
 go_enter Tryz.func71, Tryz.ntmps71
 go_wp2_with (first | ((with_reducible refine gate_dst (N := 1) rfl ?_); refine bx_ 1 #[.int .i64 a0_0, .int .i64 a0_1, .int .i64 a0_2, .slice A0_3 l0_3.length c0_3, .slice A0_4 l0_4.length c0_4, .slice A0_5 l0_5.length c0_5] 51 ?_; intro gb124 hg w5 hbox hb; have BK124 := Aside0.mk (hbox); have GW124 := gs_ hg; replace HB := Aside0.mk (below_step oB hb); clear hb hbox hg) | ((with_reducible refine gate_dst (N := 2) rfl ?_); refine bx_ 2 #[.int .i64 0, .int .i64 0, .int .i64 0, .slice none 0 0, .slice none 0 0, .slice none 0 0] 51 ?_; intro gb125 hg w6 hbox hb; have BK125 := Aside0.mk (hbox); have GW125 := gs_ hg; have NB124_125 := nl_ hg BK124; have NB125_124 := nr_ hg BK124; replace BK124 := kb_ BK124 hb; replace HB := Aside0.mk (below_step oB hb); clear hb hbox hg; have hnb7 := NB124_125.out; have hnc7 := NB125_124.out; obtain ⟨⟨_, _, _, _, _, _⟩, _, _, _, _, _, _⟩ := z6 BK124) | ((with_reducible refine gate_callee (f := 51) rfl ?_); refine gl_ 5 Tryz.func51 (slices_Clone_byte_byte.calls _ _ l0_3 t126 _ (kC HR0_3) HC0_3.out A2.out) ?_; rintro e w9 ⟨v127, rfl, ho0, hb⟩; refine ⟨_, rfl, ?_⟩; have HO128 := Aside0.mk (Kd.R_lower ho0 (below_size oB)); replace BK124 := kb_ BK124 hb; replace BK125 := kb_ BK125 hb; replace HB := Aside0.mk (below_step oB hb); obtain ⟨Ao10, co10, eo10⟩ := Kd.R_slice HO128.out; subst eo10; obtain ⟨⟨_, _, _, _, _, _⟩, _, _, _, _, _, _⟩ := z6 BK124) | ((with_reducible refine gate_callee (f := 82) rfl ?_); refine gl_ 9 Tryz.func82 (slices_Clone_Ent.calls _ _ l0_4 t129 _ ?side1 HC0_4.out A3.out) ?_; (case side1 => exact Kd.C_below HR0_4.out oB); rintro e w12 ⟨v130, rfl, ho0, hb⟩; refine ⟨_, rfl, ?_⟩; have HO131 := Aside0.mk (Kd.R_lower ho0 (below_size oB)); replace HO128 := beR1 HO128 BK124 hb; replace BK124 := kp_ #[.int .i64 a0_0, .int .i64 a0_1, .int .i64 a0_2, .slice Ao10 t126.length co10, .slice A0_4 l0_4.length c0_4, .slice A0_5 l0_5.length c0_5] BK124 hb; replace BK125 := kb_ BK125 hb; replace HB := Aside0.mk (below_step oB hb); (try clear hk); obtain ⟨Ao13, co13, eo13⟩ := Kd.R_slice HO131.out; subst eo13; obtain ⟨⟨_, _, _, _, _, _⟩, _, _, _, _, _, _⟩ := z6 BK124) | ((with_reducible refine gate_callee (f := 95) rfl ?_); refine gl_ 13 Tryz.func95 (slices_Clone_Attr.calls _ _ l0_5 t132 _ ?side1 HC0_5.out A4.out) ?_; (case side1 => exact Kd.C_below HR0_5.out oB); rintro e w15 ⟨v133, rfl, ho0, hb⟩; refine ⟨_, rfl, ?_⟩; have HO134 := Aside0.mk (Kd.R_lower ho0 (below_size oB)); replace HO128 := beR1 HO128 BK124 hb; replace HO131 := beR1 HO131 BK124 hb; replace BK124 := kp_ #[.int .i64 a0_0, .int .i64 a0_1, .int .i64 a0_2, .slice Ao10 t126.length co10, .slice Ao13 t129.length co13, .slice A0_5 l0_5.length c0_5] BK124 hb; replace BK125 := kb_ BK125 hb; replace HB := Aside0.mk (below_step oB hb); (try clear hk); obtain ⟨Ao16, co16, eo16⟩ := Kd.R_slice HO134.out; subst eo16; obtain ⟨⟨_, _, _, _, _, _⟩, _, _, _, _, _, _⟩ := z6 BK124; obtain ⟨⟨_, _, _, _, _, _⟩, _, _, _, _, _, _⟩ := z6 BK125))
 refine bodyPost_ret (results_cell_row rfl _ _ gb125 51 #[.int .i64 a0_0, .int .i64 a0_1, .int .i64 a0_2, .slice Ao10 t126.length co10, .slice Ao13 t129.length co13, .slice Ao16 t132.length co16] (0, 0) _ rfl (oP BK125) Tryz.underlying51 rfl (by kernel_rfl)) rfl ?_
 exact ⟨_, _, _, oE, by (with_reducible repeat (first | apply Kd.R_alloc | apply Kd.R_drewN | apply Kd.R_drew)); exact Kd.R_mono (Kd.R_far (p := ⟨gb125, 5, none⟩) (Kd.R_far (p := ⟨gb125, 4, none⟩) (Kd.R_far (p := ⟨gb125, 3, none⟩) (Kd.R_far (p := ⟨gb125, 2, none⟩) (Kd.R_far (p := ⟨gb125, 1, none⟩) (Kd.R_far (p := ⟨gb125, 0, none⟩) (Kd.R_far (p := ⟨gb124, 5, none⟩) (Kd.R_types (Kd.R_types HO128.out BK124.out (by decide)) BK125.out (by decide)) (fun _ hk => hk.1.2) (.slice Ao16 t132.length co16)) (fun _ hk => hk.2) (.int .i64 a0_0)) (fun _ hk => hk.2) (.int .i64 a0_1)) (fun _ hk => hk.2) (.int .i64 a0_2)) (fun _ hk => hk.2) (.slice Ao10 t126.length co10)) (fun _ hk => hk.2) (.slice Ao13 t129.length co13)) (fun _ hk => hk.2) (.slice Ao16 t132.length co16)) (fun _ hk => trivial), by (with_reducible repeat (first | apply Kd.R_alloc | apply Kd.R_drewN | apply Kd.R_drew)); exact Kd.R_mono (Kd.R_far (p := ⟨gb125, 5, none⟩) (Kd.R_far (p := ⟨gb125, 4, none⟩) (Kd.R_far (p := ⟨gb125, 3, none⟩) (Kd.R_far (p := ⟨gb125, 2, none⟩) (Kd.R_far (p := ⟨gb125, 1, none⟩) (Kd.R_far (p := ⟨gb125, 0, none⟩) (Kd.R_far (p := ⟨gb124, 5, none⟩) (Kd.R_types (Kd.R_types HO131.out BK124.out (by decide)) BK125.out (by decide)) (fun _ hk => hk.1.2) (.slice Ao16 t132.length co16)) (fun _ hk => hk.2) (.int .i64 a0_0)) (fun _ hk => hk.2) (.int .i64 a0_1)) (fun _ hk => hk.2) (.int .i64 a0_2)) (fun _ hk => hk.2) (.slice Ao10 t126.length co10)) (fun _ hk => hk.2) (.slice Ao13 t129.length co13)) (fun _ hk => hk.2) (.slice Ao16 t132.length co16)) (fun _ hk => trivial), by (with_reducible repeat (first | apply Kd.R_alloc | apply Kd.R_drewN | apply Kd.R_drew)); exact Kd.R_mono (Kd.R_far (p := ⟨gb125, 5, none⟩) (Kd.R_far (p := ⟨gb125, 4, none⟩) (Kd.R_far (p := ⟨gb125, 3, none⟩) (Kd.R_far (p := ⟨gb125, 2, none⟩) (Kd.R_far (p := ⟨gb125, 1, none⟩) (Kd.R_far (p := ⟨gb125, 0, none⟩) (Kd.R_far (p := ⟨gb124, 5, none⟩) (Kd.R_types (Kd.R_types HO134.out BK124.out (by decide)) BK125.out (by decide)) (fun _ hk => hk.1.2) (.slice Ao16 t132.length co16)) (fun _ hk => hk.2) (.int .i64 a0_0)) (fun _ hk => hk.2) (.int .i64 a0_1)) (fun _ hk => hk.2) (.int .i64 a0_2)) (fun _ hk => hk.2) (.slice Ao10 t126.length co10)) (fun _ hk => hk.2) (.slice Ao13 t129.length co13)) (fun _ hk => hk.2) (.slice Ao16 t132.length co16)) (fun _ hk => trivial), oB⟩

end Go.Proofs.YtkcfmbggdkkfeaaGreatDoor.P
