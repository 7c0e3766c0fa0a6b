-- By this session's own program (wip/myprint.py) out of the translation; Lean checks it.
import Derived.Test.YtkknehgaebhbeaaPx0
namespace Go.Proofs.Ytkknehgaebhbeaa.P
open Go.RowKit Go.Proofs.YtkknehgaebhbeaaW.PrintWords Go.Proofs.YtkknehgaebhbeaaW.PrintLast Go.Proofs.YtkknehgaebhbeaaW.PrintMore
attribute [local go_sem] max2_int min2_int max_two min_two max_three min_three max_four min_four   -- for this text's walks alone
set_option linter.unusedVariables false
set_option linter.unusedSimpArgs false

/-! ### impl_NameOk: function 92 -/
def impl_NameOk.l0 : Nat → ByteArray → Int → Int → Option (Bool)
 | 0, _, _, _ => none
 | k + 1, x0, x6, x7 => if x7 < x6 then (if 0 ≤ x7 then (if x7 < (x0.size : Int) then (if (bt x0 x7) < 97 then (if (bt x0 x7) < 48 then (if (bt x0 x7) = 95 then (impl_NameOk.l0 k x0 x6 (wrap64 (x7 + 1))) else (if (bt x0 x7) = 45 then (impl_NameOk.l0 k x0 x6 (wrap64 (x7 + 1))) else (if (bt x0 x7) = 46 then (impl_NameOk.l0 k x0 x6 (wrap64 (x7 + 1))) else (some false)))) else (if (bt x0 x7) > 57 then (if (bt x0 x7) = 95 then (impl_NameOk.l0 k x0 x6 (wrap64 (x7 + 1))) else (if (bt x0 x7) = 45 then (impl_NameOk.l0 k x0 x6 (wrap64 (x7 + 1))) else (if (bt x0 x7) = 46 then (impl_NameOk.l0 k x0 x6 (wrap64 (x7 + 1))) else (some false)))) else (impl_NameOk.l0 k x0 x6 (wrap64 (x7 + 1))))) else (if (bt x0 x7) > 122 then (if (bt x0 x7) < 48 then (if (bt x0 x7) = 95 then (impl_NameOk.l0 k x0 x6 (wrap64 (x7 + 1))) else (if (bt x0 x7) = 45 then (impl_NameOk.l0 k x0 x6 (wrap64 (x7 + 1))) else (if (bt x0 x7) = 46 then (impl_NameOk.l0 k x0 x6 (wrap64 (x7 + 1))) else (some false)))) else (if (bt x0 x7) > 57 then (if (bt x0 x7) = 95 then (impl_NameOk.l0 k x0 x6 (wrap64 (x7 + 1))) else (if (bt x0 x7) = 45 then (impl_NameOk.l0 k x0 x6 (wrap64 (x7 + 1))) else (if (bt x0 x7) = 46 then (impl_NameOk.l0 k x0 x6 (wrap64 (x7 + 1))) else (some false)))) else (impl_NameOk.l0 k x0 x6 (wrap64 (x7 + 1))))) else (impl_NameOk.l0 k x0 x6 (wrap64 (x7 + 1))))) else (none)) else (none)) else (if (x0.size : Int) ≥ 1 then (if (x0.size : Int) ≤ 14 then (if x0.toList = ([46] : List UInt8) then (some false) else (some (x0.toList != ([46, 46] : List UInt8)))) else (some false)) else (some false))
def impl_NameOk.f (k : Nat) (a0 : ByteArray) : Option (Bool) := impl_NameOk.l0 k a0 (a0.size : Int) 0
set_option maxHeartbeats 8000000 in
set_option maxRecDepth 100000 in
theorem impl_NameOk.calls (k : Nat) (a0 : ByteArray) (r : Bool) (w : World) (h : impl_NameOk.f k a0 = some r) :
  Calls Try.prog 92 #[.string a0] w fun e w' => e = .returned (.bool r) ∧ Drawn0 w w' := by
 unfold impl_NameOk.f at h
 have H := h
 clear h
 have H' := Aside0.mk H
 clear H
 go_enter Try.func92, Try.ntmps92
 go_wp2
 go_loopg [7] k (fun kq v7 w' => ∃ (x7_1 : Int), v7 = .int .i64 x7_1 ∧ Aside0 (impl_NameOk.l0 kq a0 (a0.size : Int) x7_1 = some r) ∧ Aside0 (kq ≤ k) ∧ Drawn0 w w')
 case atStart => exact ⟨(0), oS, H', ⟨Nat.le_refl _⟩, oD⟩
 case round =>
  clear H'
  obtain ⟨x7_1, rfl, HA, HK1, ⟨m1, rfl⟩⟩ := hrel
  cases gk with
  | zero => exact absurd HA.out (by simp [impl_NameOk.l0])
  | succ k1 =>
   have H := HA.out
   clear HA
   simp only [impl_NameOk.l0] at H
   replace H := itD H
   rcases H with ⟨c2b0, H⟩ | ⟨c2b0, H⟩
   ·replace H := itD H
    rcases H with ⟨c3b0, H⟩ | ⟨c3b0, H⟩
    ·replace H := itD H
     rcases H with ⟨c4b0, H⟩ | ⟨c4b0, H⟩
     ·replace H := itD H
      rcases H with ⟨c6b0, H⟩ | ⟨c6b0, H⟩
      ·replace H := itD H
       rcases H with ⟨c7b0, H⟩ | ⟨c7b0, H⟩
       ·by_cases c8 : (bt a0 x7_1) = 95
        ·rw [if_pos c8] at H
         have c8b0 : ((bt a0 x7_1) == 95) = true := beq_iff_eq.mpr c8
         have c8b1 : ((bt a0 x7_1) != 95) = false := bne_eq_false_iff_eq.mpr c8
         clear c8
         have H' := Aside0.mk H
         clear H
         have p5 : (0 ≤ (x7_1 : Int)) = True := oT
         have q5 : (x7_1 < (a0.size : Int)) = True := oT
         have hx5 := bt_at a0 x7_1
         go_wp2
         go_roundg k1
         case measure => have := HK1.out; omega
         case rel => exact ⟨(wrap64 (x7_1 + 1)), oS, H', ⟨by have := HK1.out; omega⟩, oD⟩
        ·rw [if_neg c8] at H
         have c8b0 : ((bt a0 x7_1) == 95) = false := beq_eq_false_iff_ne.mpr c8
         have c8b1 : ((bt a0 x7_1) != 95) = true := bne_iff_ne.mpr c8
         by_cases c9 : (bt a0 x7_1) = 45
         ·rw [if_pos c9] at H
          have c9b0 : ((bt a0 x7_1) == 45) = true := beq_iff_eq.mpr c9
          have c9b1 : ((bt a0 x7_1) != 45) = false := bne_eq_false_iff_eq.mpr c9
          clear c9
          have H' := Aside0.mk H
          clear H
          have p5 : (0 ≤ (x7_1 : Int)) = True := oT
          have q5 : (x7_1 < (a0.size : Int)) = True := oT
          have hx5 := bt_at a0 x7_1
          go_wp2
          go_roundg k1
          case measure => have := HK1.out; omega
          case rel => exact ⟨(wrap64 (x7_1 + 1)), oS, H', ⟨by have := HK1.out; omega⟩, oD⟩
         ·rw [if_neg c9] at H
          have c9b0 : ((bt a0 x7_1) == 45) = false := beq_eq_false_iff_ne.mpr c9
          have c9b1 : ((bt a0 x7_1) != 45) = true := bne_iff_ne.mpr c9
          by_cases c10 : (bt a0 x7_1) = 46
          ·rw [if_pos c10] at H
           have c10b0 : ((bt a0 x7_1) == 46) = true := beq_iff_eq.mpr c10
           have c10b1 : ((bt a0 x7_1) != 46) = false := bne_eq_false_iff_eq.mpr c10
           clear c10
           have H' := Aside0.mk H
           clear H
           have p5 : (0 ≤ (x7_1 : Int)) = True := oT
           have q5 : (x7_1 < (a0.size : Int)) = True := oT
           have hx5 := bt_at a0 x7_1
           go_wp2
           go_roundg k1
           case measure => have := HK1.out; omega
           case rel => exact ⟨(wrap64 (x7_1 + 1)), oS, H', ⟨by have := HK1.out; omega⟩, oD⟩
          ·rw [if_neg c10] at H
           have c10b0 : ((bt a0 x7_1) == 46) = false := beq_eq_false_iff_ne.mpr c10
           have c10b1 : ((bt a0 x7_1) != 46) = true := bne_iff_ne.mpr c10
           obtain rfl := Option.some.inj H
           have p5 : (0 ≤ (x7_1 : Int)) = True := oT
           have q5 : (x7_1 < (a0.size : Int)) = True := oT
           have hx5 := bt_at a0 x7_1
           go_wp2
           go_ret
           exact ⟨oS, oD⟩
       ·replace H := itG H
        rcases H with ⟨c11b0, H⟩ | ⟨c11b0, H⟩
        ·by_cases c12 : (bt a0 x7_1) = 95
         ·rw [if_pos c12] at H
          have c12b0 : ((bt a0 x7_1) == 95) = true := beq_iff_eq.mpr c12
          have c12b1 : ((bt a0 x7_1) != 95) = false := bne_eq_false_iff_eq.mpr c12
          clear c12
          have H' := Aside0.mk H
          clear H
          have p5 : (0 ≤ (x7_1 : Int)) = True := oT
          have q5 : (x7_1 < (a0.size : Int)) = True := oT
          have hx5 := bt_at a0 x7_1
          go_wp2
          go_roundg k1
          case measure => have := HK1.out; omega
          case rel => exact ⟨(wrap64 (x7_1 + 1)), oS, H', ⟨by have := HK1.out; omega⟩, oD⟩
         ·rw [if_neg c12] at H
          have c12b0 : ((bt a0 x7_1) == 95) = false := beq_eq_false_iff_ne.mpr c12
          have c12b1 : ((bt a0 x7_1) != 95) = true := bne_iff_ne.mpr c12
          by_cases c13 : (bt a0 x7_1) = 45
          ·rw [if_pos c13] at H
           have c13b0 : ((bt a0 x7_1) == 45) = true := beq_iff_eq.mpr c13
           have c13b1 : ((bt a0 x7_1) != 45) = false := bne_eq_false_iff_eq.mpr c13
           clear c13
           have H' := Aside0.mk H
           clear H
           have p5 : (0 ≤ (x7_1 : Int)) = True := oT
           have q5 : (x7_1 < (a0.size : Int)) = True := oT
           have hx5 := bt_at a0 x7_1
           go_wp2
           go_roundg k1
           case measure => have := HK1.out; omega
           case rel => exact ⟨(wrap64 (x7_1 + 1)), oS, H', ⟨by have := HK1.out; omega⟩, oD⟩
          ·rw [if_neg c13] at H
           have c13b0 : ((bt a0 x7_1) == 45) = false := beq_eq_false_iff_ne.mpr c13
           have c13b1 : ((bt a0 x7_1) != 45) = true := bne_iff_ne.mpr c13
           by_cases c14 : (bt a0 x7_1) = 46
           ·rw [if_pos c14] at H
            have c14b0 : ((bt a0 x7_1) == 46) = true := beq_iff_eq.mpr c14
            have c14b1 : ((bt a0 x7_1) != 46) = false := bne_eq_false_iff_eq.mpr c14
            clear c14
            have H' := Aside0.mk H
            clear H
            have p5 : (0 ≤ (x7_1 : Int)) = True := oT
            have q5 : (x7_1 < (a0.size : Int)) = True := oT
            have hx5 := bt_at a0 x7_1
            go_wp2
            go_roundg k1
            case measure => have := HK1.out; omega
            case rel => exact ⟨(wrap64 (x7_1 + 1)), oS, H', ⟨by have := HK1.out; omega⟩, oD⟩
           ·rw [if_neg c14] at H
            have c14b0 : ((bt a0 x7_1) == 46) = false := beq_eq_false_iff_ne.mpr c14
            have c14b1 : ((bt a0 x7_1) != 46) = true := bne_iff_ne.mpr c14
            obtain rfl := Option.some.inj H
            have p5 : (0 ≤ (x7_1 : Int)) = True := oT
            have q5 : (x7_1 < (a0.size : Int)) = True := oT
            have hx5 := bt_at a0 x7_1
            go_wp2
            go_ret
            exact ⟨oS, oD⟩
        ·have H' := Aside0.mk H
         clear H
         have p5 : (0 ≤ (x7_1 : Int)) = True := oT
         have q5 : (x7_1 < (a0.size : Int)) = True := oT
         have hx5 := bt_at a0 x7_1
         go_wp2
         go_roundg k1
         case measure => have := HK1.out; omega
         case rel => exact ⟨(wrap64 (x7_1 + 1)), oS, H', ⟨by have := HK1.out; omega⟩, oD⟩
      ·replace H := itG H
       rcases H with ⟨c15b0, H⟩ | ⟨c15b0, H⟩
       ·replace H := itD H
        rcases H with ⟨c16b0, H⟩ | ⟨c16b0, H⟩
        ·by_cases c17 : (bt a0 x7_1) = 95
         ·rw [if_pos c17] at H
          have c17b0 : ((bt a0 x7_1) == 95) = true := beq_iff_eq.mpr c17
          have c17b1 : ((bt a0 x7_1) != 95) = false := bne_eq_false_iff_eq.mpr c17
          clear c17
          have H' := Aside0.mk H
          clear H
          have p5 : (0 ≤ (x7_1 : Int)) = True := oT
          have q5 : (x7_1 < (a0.size : Int)) = True := oT
          have hx5 := bt_at a0 x7_1
          go_wp2
          go_roundg k1
          case measure => have := HK1.out; omega
          case rel => exact ⟨(wrap64 (x7_1 + 1)), oS, H', ⟨by have := HK1.out; omega⟩, oD⟩
         ·rw [if_neg c17] at H
          have c17b0 : ((bt a0 x7_1) == 95) = false := beq_eq_false_iff_ne.mpr c17
          have c17b1 : ((bt a0 x7_1) != 95) = true := bne_iff_ne.mpr c17
          by_cases c18 : (bt a0 x7_1) = 45
          ·rw [if_pos c18] at H
           have c18b0 : ((bt a0 x7_1) == 45) = true := beq_iff_eq.mpr c18
           have c18b1 : ((bt a0 x7_1) != 45) = false := bne_eq_false_iff_eq.mpr c18
           clear c18
           have H' := Aside0.mk H
           clear H
           have p5 : (0 ≤ (x7_1 : Int)) = True := oT
           have q5 : (x7_1 < (a0.size : Int)) = True := oT
           have hx5 := bt_at a0 x7_1
           go_wp2
           go_roundg k1
           case measure => have := HK1.out; omega
           case rel => exact ⟨(wrap64 (x7_1 + 1)), oS, H', ⟨by have := HK1.out; omega⟩, oD⟩
          ·rw [if_neg c18] at H
           have c18b0 : ((bt a0 x7_1) == 45) = false := beq_eq_false_iff_ne.mpr c18
           have c18b1 : ((bt a0 x7_1) != 45) = true := bne_iff_ne.mpr c18
           by_cases c19 : (bt a0 x7_1) = 46
           ·rw [if_pos c19] at H
            have c19b0 : ((bt a0 x7_1) == 46) = true := beq_iff_eq.mpr c19
            have c19b1 : ((bt a0 x7_1) != 46) = false := bne_eq_false_iff_eq.mpr c19
            clear c19
            have H' := Aside0.mk H
            clear H
            have p5 : (0 ≤ (x7_1 : Int)) = True := oT
            have q5 : (x7_1 < (a0.size : Int)) = True := oT
            have hx5 := bt_at a0 x7_1
            go_wp2
            go_roundg k1
            case measure => have := HK1.out; omega
            case rel => exact ⟨(wrap64 (x7_1 + 1)), oS, H', ⟨by have := HK1.out; omega⟩, oD⟩
           ·rw [if_neg c19] at H
            have c19b0 : ((bt a0 x7_1) == 46) = false := beq_eq_false_iff_ne.mpr c19
            have c19b1 : ((bt a0 x7_1) != 46) = true := bne_iff_ne.mpr c19
            obtain rfl := Option.some.inj H
            have p5 : (0 ≤ (x7_1 : Int)) = True := oT
            have q5 : (x7_1 < (a0.size : Int)) = True := oT
            have hx5 := bt_at a0 x7_1
            go_wp2
            go_ret
            exact ⟨oS, oD⟩
        ·replace H := itG H
         rcases H with ⟨c20b0, H⟩ | ⟨c20b0, H⟩
         ·by_cases c21 : (bt a0 x7_1) = 95
          ·rw [if_pos c21] at H
           have c21b0 : ((bt a0 x7_1) == 95) = true := beq_iff_eq.mpr c21
           have c21b1 : ((bt a0 x7_1) != 95) = false := bne_eq_false_iff_eq.mpr c21
           clear c21
           have H' := Aside0.mk H
           clear H
           have p5 : (0 ≤ (x7_1 : Int)) = True := oT
           have q5 : (x7_1 < (a0.size : Int)) = True := oT
           have hx5 := bt_at a0 x7_1
           go_wp2
           go_roundg k1
           case measure => have := HK1.out; omega
           case rel => exact ⟨(wrap64 (x7_1 + 1)), oS, H', ⟨by have := HK1.out; omega⟩, oD⟩
          ·rw [if_neg c21] at H
           have c21b0 : ((bt a0 x7_1) == 95) = false := beq_eq_false_iff_ne.mpr c21
           have c21b1 : ((bt a0 x7_1) != 95) = true := bne_iff_ne.mpr c21
           by_cases c22 : (bt a0 x7_1) = 45
           ·rw [if_pos c22] at H
            have c22b0 : ((bt a0 x7_1) == 45) = true := beq_iff_eq.mpr c22
            have c22b1 : ((bt a0 x7_1) != 45) = false := bne_eq_false_iff_eq.mpr c22
            clear c22
            have H' := Aside0.mk H
            clear H
            have p5 : (0 ≤ (x7_1 : Int)) = True := oT
            have q5 : (x7_1 < (a0.size : Int)) = True := oT
            have hx5 := bt_at a0 x7_1
            go_wp2
            go_roundg k1
            case measure => have := HK1.out; omega
            case rel => exact ⟨(wrap64 (x7_1 + 1)), oS, H', ⟨by have := HK1.out; omega⟩, oD⟩
           ·rw [if_neg c22] at H
            have c22b0 : ((bt a0 x7_1) == 45) = false := beq_eq_false_iff_ne.mpr c22
            have c22b1 : ((bt a0 x7_1) != 45) = true := bne_iff_ne.mpr c22
            by_cases c23 : (bt a0 x7_1) = 46
            ·rw [if_pos c23] at H
             have c23b0 : ((bt a0 x7_1) == 46) = true := beq_iff_eq.mpr c23
             have c23b1 : ((bt a0 x7_1) != 46) = false := bne_eq_false_iff_eq.mpr c23
             clear c23
             have H' := Aside0.mk H
             clear H
             have p5 : (0 ≤ (x7_1 : Int)) = True := oT
             have q5 : (x7_1 < (a0.size : Int)) = True := oT
             have hx5 := bt_at a0 x7_1
             go_wp2
             go_roundg k1
             case measure => have := HK1.out; omega
             case rel => exact ⟨(wrap64 (x7_1 + 1)), oS, H', ⟨by have := HK1.out; omega⟩, oD⟩
            ·rw [if_neg c23] at H
             have c23b0 : ((bt a0 x7_1) == 46) = false := beq_eq_false_iff_ne.mpr c23
             have c23b1 : ((bt a0 x7_1) != 46) = true := bne_iff_ne.mpr c23
             obtain rfl := Option.some.inj H
             have p5 : (0 ≤ (x7_1 : Int)) = True := oT
             have q5 : (x7_1 < (a0.size : Int)) = True := oT
             have hx5 := bt_at a0 x7_1
             go_wp2
             go_ret
             exact ⟨oS, oD⟩
         ·have H' := Aside0.mk H
          clear H
          have p5 : (0 ≤ (x7_1 : Int)) = True := oT
          have q5 : (x7_1 < (a0.size : Int)) = True := oT
          have hx5 := bt_at a0 x7_1
          go_wp2
          go_roundg k1
          case measure => have := HK1.out; omega
          case rel => exact ⟨(wrap64 (x7_1 + 1)), oS, H', ⟨by have := HK1.out; omega⟩, oD⟩
       ·have H' := Aside0.mk H
        clear H
        have p5 : (0 ≤ (x7_1 : Int)) = True := oT
        have q5 : (x7_1 < (a0.size : Int)) = True := oT
        have hx5 := bt_at a0 x7_1
        go_wp2
        go_roundg k1
        case measure => have := HK1.out; omega
        case rel => exact ⟨(wrap64 (x7_1 + 1)), oS, H', ⟨by have := HK1.out; omega⟩, oD⟩
     ·cases H
    ·cases H
   ·by_cases c24 : (a0.size : Int) ≥ 1
    ·rw [if_pos c24] at H
     have c24b0 : decide (1 ≤ (a0.size : Int)) = true := decide_eq_true c24
     have c24b1 : decide (1 ≤ a0.size) = true := decide_eq_true (by omega)
     clear c24
     by_cases c25 : (a0.size : Int) ≤ 14
     ·rw [if_pos c25] at H
      have c25b0 : decide ((a0.size : Int) ≤ 14) = true := decide_eq_true c25
      have c25b1 : decide (a0.size ≤ 14) = true := decide_eq_true (by omega)
      clear c25
      by_cases c26 : a0.toList = ([46] : List UInt8)
      ·rw [if_pos c26] at H
       have c26b0 : (a0.toList == ([46] : List UInt8)) = true := beq_iff_eq.mpr c26
       have c26b1 : (a0.toList != ([46] : List UInt8)) = false := bne_eq_false_iff_eq.mpr c26
       clear c26
       obtain rfl := Option.some.inj H
       go_wp2
       go_ret
       exact ⟨oS, oD⟩
      ·rw [if_neg c26] at H
       have c26b0 : (a0.toList == ([46] : List UInt8)) = false := beq_eq_false_iff_ne.mpr c26
       have c26b1 : (a0.toList != ([46] : List UInt8)) = true := bne_iff_ne.mpr c26
       obtain rfl := Option.some.inj H
       go_wp2
       go_ret
       exact ⟨oS, oD⟩
     ·rw [if_neg c25] at H
      have c25b0 : decide ((a0.size : Int) ≤ 14) = false := decide_eq_false c25
      have c25b1 : decide (a0.size ≤ 14) = false := decide_eq_false (by omega)
      clear c25
      obtain rfl := Option.some.inj H
      go_wp2
      go_ret
      exact ⟨oS, oD⟩
    ·rw [if_neg c24] at H
     have c24b0 : decide (1 ≤ (a0.size : Int)) = false := decide_eq_false c24
     have c24b1 : decide (1 ≤ a0.size) = false := decide_eq_false (by omega)
     clear c24
     obtain rfl := Option.some.inj H
     go_wp2
     go_ret
     exact ⟨oS, oD⟩

/-! ### laws_szStringS: function 18 -/
def laws_szStringS.l0 : Nat → List ByteArray → Int → Int → Option (Int)
 | 0, _, _, _ => none
 | k + 1, x0, x1, x5 => if x5 < (x0.length : Int) then (if 0 ≤ x5 then (if (wrap64 (x1 - ((rdOf ByteArray.empty x0 x5).size : Int))) < 0 then (some (-1)) else (laws_szStringS.l0 k x0 (wrap64 (x1 - ((rdOf ByteArray.empty x0 x5).size : Int))) (wrap64 (x5 + 1)))) else (none)) else (some x1)
def laws_szStringS.f (k : Nat) (l0 : List ByteArray) (a1 : Int) : Option (Int) := if (wrap64 (a1 - (l0.length : Int))) < 0 then (some (-1)) else (laws_szStringS.l0 k l0 (wrap64 (a1 - (l0.length : Int))) 0)
set_option maxHeartbeats 8000000 in
set_option maxRecDepth 100000 in
theorem laws_szStringS.calls (k : Nat) (A0 : Option Addr) (c0 : Nat) (l0 : List ByteArray) (a1 : Int) (r : Int) (w : World) (hr0 : Kd.C Kd.string w A0 l0.length l0) (hc0 : l0.length ≤ c0) (h : laws_szStringS.f k l0 a1 = some r) :
  Calls Try.prog 18 #[.slice A0 l0.length c0, .int .i64 a1] w fun e w' => e = .returned (.int .i64 r) ∧ Drawn0 w w' := by
 have HR0 := Aside0.mk hr0
 have HC0 := Aside0.mk hc0
 clear hr0 hc0
 unfold laws_szStringS.f at h
 have H := h
 clear h
 replace H := itD H
 rcases H with ⟨c3b0, H⟩ | ⟨c3b0, H⟩
 ·obtain rfl := Option.some.inj H
  go_enter Try.func18, Try.ntmps18
  go_wp2
  go_ret
  exact ⟨oS, oD⟩
 ·have H' := Aside0.mk H
  clear H
  go_enter Try.func18, Try.ntmps18
  go_wp2
  go_loopg [1, 5] k (fun kq v1 v5 w' => ∃ (x1_1 : Int) (x5_1 : Int), v1 = .int .i64 x1_1 ∧ v5 = .int .i64 x5_1 ∧ Aside0 (laws_szStringS.l0 kq l0 x1_1 x5_1 = some r) ∧ Aside0 (kq ≤ k) ∧ Drawn0 w w')
  case atStart => exact ⟨(wrap64 (a1 - (l0.length : Int))), (0), oS, oS, H', ⟨Nat.le_refl _⟩, oD⟩
  case round =>
   clear H'
   try clear c3b0
   obtain ⟨x1_1, x5_1, rfl, rfl, HA, HK1, ⟨m1, rfl⟩⟩ := hrel
   cases gk with
   | zero => exact absurd HA.out (by simp [laws_szStringS.l0])
   | succ k1 =>
    have H := HA.out
    clear HA
    simp only [laws_szStringS.l0] at H
    replace H := itD H
    rcases H with ⟨c4b0, H⟩ | ⟨c4b0, H⟩
    ·replace H := itD H
     rcases H with ⟨c5b0, H⟩ | ⟨c5b0, H⟩
     ·replace H := itD H
      rcases H with ⟨c6b0, H⟩ | ⟨c6b0, H⟩
      ·obtain rfl := Option.some.inj H
       have p101 : (0 ≤ (x5_1 : Int)) = True := oT
       have q101 : (x5_1 < (l0.length : Int)) = True := oT
       obtain ⟨ad101, e101, hx101_0⟩ := Kd.at_string HR0.out x5_1 oa oa
       cases e101
       go_wp2
       go_ret
       exact ⟨oS, oD⟩
      ·have H' := Aside0.mk H
       clear H
       have p101 : (0 ≤ (x5_1 : Int)) = True := oT
       have q101 : (x5_1 < (l0.length : Int)) = True := oT
       obtain ⟨ad101, e101, hx101_0⟩ := Kd.at_string HR0.out x5_1 oa oa
       cases e101
       go_wp2
       go_roundg k1
       case measure => have := HK1.out; omega
       case rel => exact ⟨(wrap64 (x1_1 - ((rdOf ByteArray.empty l0 x5_1).size : Int))), (wrap64 (x5_1 + 1)), oS, oS, H', ⟨by have := HK1.out; omega⟩, oD⟩
     ·cases H
    ·obtain rfl := Option.some.inj H
     go_wp2
     go_ret
     exact ⟨oS, oD⟩

/-! ### spec_l1In: function 87 -/
def spec_l1In.f (a0 : Int) (a1 : Int) (a2 : Int) : Option (Bool) := if a0 ≥ a1 then (some (decide (a0 ≤ a2))) else (some false)
set_option maxHeartbeats 8000000 in
set_option maxRecDepth 100000 in
theorem spec_l1In.calls (a0 : Int) (a1 : Int) (a2 : Int) (r : Bool) (w : World) (h : spec_l1In.f a0 a1 a2 = some r) :
  Calls Try.prog 87 #[.int .i64 a0, .int .i64 a1, .int .i64 a2] w fun e w' => e = .returned (.bool r) ∧ Drawn0 w w' := by
 unfold spec_l1In.f at h
 have H := h
 clear h
 replace H := itH H
 rcases H with ⟨c4b0, H⟩ | ⟨c4b0, H⟩
 ·obtain rfl := Option.some.inj H
  go_enter Try.func87, Try.ntmps87
  go_wp2
  go_ret
  exact ⟨oS, oD⟩
 ·obtain rfl := Option.some.inj H
  go_enter Try.func87, Try.ntmps87
  go_wp2
  go_ret
  exact ⟨oS, oD⟩

/-! ### spec_NameOk: function 67 -/
def spec_NameOk.l0 : Nat → ByteArray → Int → Option (Bool)
 | 0, _, _ => none
 | k + 1, x0, x3 => if x3 < (x0.size : Int) then (if 0 ≤ x3 then ((spec_l1In.f (wrap64 (bt x0 x3)) 97 122).bind fun t103 => (if t103 = true then (spec_NameOk.l0 k x0 (wrap64 (x3 + 1))) else ((spec_l1In.f (wrap64 (bt x0 x3)) 48 57).bind fun t104 => (if t104 = true then (spec_NameOk.l0 k x0 (wrap64 (x3 + 1))) else (if (wrap64 (bt x0 x3)) = 95 then (spec_NameOk.l0 k x0 (wrap64 (x3 + 1))) else (if (wrap64 (bt x0 x3)) = 45 then (spec_NameOk.l0 k x0 (wrap64 (x3 + 1))) else (if (wrap64 (bt x0 x3)) = 46 then (spec_NameOk.l0 k x0 (wrap64 (x3 + 1))) else (some false)))))))) else (none)) else ((spec_l1In.f (x0.size : Int) 1 14).bind fun t102 => (if t102 = true then (if x0.toList = ([46] : List UInt8) then (some false) else (some (x0.toList != ([46, 46] : List UInt8)))) else (some false)))
def spec_NameOk.f (k : Nat) (a0 : ByteArray) : Option (Bool) := spec_NameOk.l0 k a0 0
set_option maxHeartbeats 8000000 in
set_option maxRecDepth 100000 in
theorem spec_NameOk.calls (k : Nat) (a0 : ByteArray) (r : Bool) (w : World) (h : spec_NameOk.f k a0 = some r) :
  Calls Try.prog 67 #[.string a0] w fun e w' => e = .returned (.bool r) ∧ Drawn0 w w' := by
 unfold spec_NameOk.f at h
 have H := h
 clear h
 have H' := Aside0.mk H
 clear H
 go_enter Try.func67, Try.ntmps67
 go_wp2
 go_loopg [3] k (fun kq v3 w' => ∃ (x3_1 : Int), v3 = .int .i64 x3_1 ∧ Aside0 (spec_NameOk.l0 kq a0 x3_1 = some r) ∧ Aside0 (kq ≤ k) ∧ Drawn0 w w')
 case atStart => exact ⟨(0), oS, H', ⟨Nat.le_refl _⟩, oD⟩
 case round =>
  clear H'
  obtain ⟨x3_1, rfl, HA, HK1, ⟨m1, rfl⟩⟩ := hrel
  cases gk with
  | zero => exact absurd HA.out (by simp [spec_NameOk.l0])
  | succ k1 =>
   have H := HA.out
   clear HA
   simp only [spec_NameOk.l0] at H
   replace H := itD H
   rcases H with ⟨c2b0, H⟩ | ⟨c2b0, H⟩
   ·replace H := itD H
    rcases H with ⟨c3b0, H⟩ | ⟨c3b0, H⟩
    ·replace H := bA H
     obtain ⟨t103, A5, H⟩ := H
     try dsimp only at H
     replace H := itB H
     rcases H with ⟨rfl, H⟩ | ⟨rfl, H⟩
     ·have H' := Aside0.mk H
      clear H
      have p4 : (0 ≤ (x3_1 : Int)) = True := oT
      have q4 : (x3_1 < (a0.size : Int)) = True := oT
      have hx4 := bt_at a0 x3_1
      go_wp2_with (first | ((with_reducible refine gate_callee (f := 87) rfl ?_); refine gl_ 16 Try.func87 (spec_l1In.calls (wrap64 (bt a0 x3_1)) 97 122 true _ A5.out) ?_; rintro e w' ⟨rfl, ⟨nd, rfl⟩⟩; refine ⟨_, rfl, ?_⟩))
      go_roundg k1
      case measure => have := HK1.out; omega
      case rel => exact ⟨(wrap64 (x3_1 + 1)), oS, H', ⟨by have := HK1.out; omega⟩, oD⟩
     ·replace H := bA H
      obtain ⟨t104, A7, H⟩ := H
      try dsimp only at H
      replace H := itB H
      rcases H with ⟨rfl, H⟩ | ⟨rfl, H⟩
      ·have H' := Aside0.mk H
       clear H
       have p4 : (0 ≤ (x3_1 : Int)) = True := oT
       have q4 : (x3_1 < (a0.size : Int)) = True := oT
       have hx4 := bt_at a0 x3_1
       go_wp2_with (first | ((with_reducible refine gate_callee (f := 87) rfl ?_); refine gl_ 16 Try.func87 (spec_l1In.calls (wrap64 (bt a0 x3_1)) 97 122 false _ A5.out) ?_; rintro e w' ⟨rfl, ⟨nd, rfl⟩⟩; refine ⟨_, rfl, ?_⟩) | (go_at_call 87; (with_reducible refine (spec_l1In.calls (wrap64 (bt a0 x3_1)) 48 57 true _ A7.out).mono ?_); rintro e w' ⟨rfl, ⟨nd, rfl⟩⟩))
       go_roundg k1
       case measure => have := HK1.out; omega
       case rel => exact ⟨(wrap64 (x3_1 + 1)), oS, H', ⟨by have := HK1.out; omega⟩, oD⟩
      ·by_cases c9 : (wrap64 (bt a0 x3_1)) = 95
       ·rw [if_pos c9] at H
        have c9b0 : ((wrap64 (bt a0 x3_1)) == 95) = true := beq_iff_eq.mpr c9
        have c9b1 : ((wrap64 (bt a0 x3_1)) != 95) = false := bne_eq_false_iff_eq.mpr c9
        clear c9
        have H' := Aside0.mk H
        clear H
        have p4 : (0 ≤ (x3_1 : Int)) = True := oT
        have q4 : (x3_1 < (a0.size : Int)) = True := oT
        have hx4 := bt_at a0 x3_1
        go_wp2_with (first | ((with_reducible refine gate_callee (f := 87) rfl ?_); refine gl_ 16 Try.func87 (spec_l1In.calls (wrap64 (bt a0 x3_1)) 97 122 false _ A5.out) ?_; rintro e w' ⟨rfl, ⟨nd, rfl⟩⟩; refine ⟨_, rfl, ?_⟩) | (go_at_call 87; (with_reducible refine (spec_l1In.calls (wrap64 (bt a0 x3_1)) 48 57 false _ A7.out).mono ?_); rintro e w' ⟨rfl, ⟨nd, rfl⟩⟩))
        go_roundg k1
        case measure => have := HK1.out; omega
        case rel => exact ⟨(wrap64 (x3_1 + 1)), oS, H', ⟨by have := HK1.out; omega⟩, oD⟩
       ·rw [if_neg c9] at H
        have c9b0 : ((wrap64 (bt a0 x3_1)) == 95) = false := beq_eq_false_iff_ne.mpr c9
        have c9b1 : ((wrap64 (bt a0 x3_1)) != 95) = true := bne_iff_ne.mpr c9
        by_cases c10 : (wrap64 (bt a0 x3_1)) = 45
        ·rw [if_pos c10] at H
         have c10b0 : ((wrap64 (bt a0 x3_1)) == 45) = true := beq_iff_eq.mpr c10
         have c10b1 : ((wrap64 (bt a0 x3_1)) != 45) = false := bne_eq_false_iff_eq.mpr c10
         clear c10
         have H' := Aside0.mk H
         clear H
         have p4 : (0 ≤ (x3_1 : Int)) = True := oT
         have q4 : (x3_1 < (a0.size : Int)) = True := oT
         have hx4 := bt_at a0 x3_1
         go_wp2_with (first | ((with_reducible refine gate_callee (f := 87) rfl ?_); refine gl_ 16 Try.func87 (spec_l1In.calls (wrap64 (bt a0 x3_1)) 97 122 false _ A5.out) ?_; rintro e w' ⟨rfl, ⟨nd, rfl⟩⟩; refine ⟨_, rfl, ?_⟩) | (go_at_call 87; (with_reducible refine (spec_l1In.calls (wrap64 (bt a0 x3_1)) 48 57 false _ A7.out).mono ?_); rintro e w' ⟨rfl, ⟨nd, rfl⟩⟩))
         go_roundg k1
         case measure => have := HK1.out; omega
         case rel => exact ⟨(wrap64 (x3_1 + 1)), oS, H', ⟨by have := HK1.out; omega⟩, oD⟩
        ·rw [if_neg c10] at H
         have c10b0 : ((wrap64 (bt a0 x3_1)) == 45) = false := beq_eq_false_iff_ne.mpr c10
         have c10b1 : ((wrap64 (bt a0 x3_1)) != 45) = true := bne_iff_ne.mpr c10
         by_cases c11 : (wrap64 (bt a0 x3_1)) = 46
         ·rw [if_pos c11] at H
          have c11b0 : ((wrap64 (bt a0 x3_1)) == 46) = true := beq_iff_eq.mpr c11
          have c11b1 : ((wrap64 (bt a0 x3_1)) != 46) = false := bne_eq_false_iff_eq.mpr c11
          clear c11
          have H' := Aside0.mk H
          clear H
          have p4 : (0 ≤ (x3_1 : Int)) = True := oT
          have q4 : (x3_1 < (a0.size : Int)) = True := oT
          have hx4 := bt_at a0 x3_1
          go_wp2_with (first | ((with_reducible refine gate_callee (f := 87) rfl ?_); refine gl_ 16 Try.func87 (spec_l1In.calls (wrap64 (bt a0 x3_1)) 97 122 false _ A5.out) ?_; rintro e w' ⟨rfl, ⟨nd, rfl⟩⟩; refine ⟨_, rfl, ?_⟩) | (go_at_call 87; (with_reducible refine (spec_l1In.calls (wrap64 (bt a0 x3_1)) 48 57 false _ A7.out).mono ?_); rintro e w' ⟨rfl, ⟨nd, rfl⟩⟩))
          go_roundg k1
          case measure => have := HK1.out; omega
          case rel => exact ⟨(wrap64 (x3_1 + 1)), oS, H', ⟨by have := HK1.out; omega⟩, oD⟩
         ·rw [if_neg c11] at H
          have c11b0 : ((wrap64 (bt a0 x3_1)) == 46) = false := beq_eq_false_iff_ne.mpr c11
          have c11b1 : ((wrap64 (bt a0 x3_1)) != 46) = true := bne_iff_ne.mpr c11
          obtain rfl := Option.some.inj H
          have p4 : (0 ≤ (x3_1 : Int)) = True := oT
          have q4 : (x3_1 < (a0.size : Int)) = True := oT
          have hx4 := bt_at a0 x3_1
          go_wp2_with (first | ((with_reducible refine gate_callee (f := 87) rfl ?_); refine gl_ 16 Try.func87 (spec_l1In.calls (wrap64 (bt a0 x3_1)) 97 122 false _ A5.out) ?_; rintro e w' ⟨rfl, ⟨nd, rfl⟩⟩; refine ⟨_, rfl, ?_⟩) | (go_at_call 87; (with_reducible refine (spec_l1In.calls (wrap64 (bt a0 x3_1)) 48 57 false _ A7.out).mono ?_); rintro e w' ⟨rfl, ⟨nd, rfl⟩⟩))
          go_ret
          exact ⟨oS, oD⟩
    ·cases H
   ·replace H := bA H
    obtain ⟨t102, A12, H⟩ := H
    try dsimp only at H
    replace H := itB H
    rcases H with ⟨rfl, H⟩ | ⟨rfl, H⟩
    ·by_cases c14 : a0.toList = ([46] : List UInt8)
     ·rw [if_pos c14] at H
      have c14b0 : (a0.toList == ([46] : List UInt8)) = true := beq_iff_eq.mpr c14
      have c14b1 : (a0.toList != ([46] : List UInt8)) = false := bne_eq_false_iff_eq.mpr c14
      clear c14
      obtain rfl := Option.some.inj H
      go_wp2_with (first | ((with_reducible refine gate_callee (f := 87) rfl ?_); refine gl_ 37 Try.func87 (spec_l1In.calls (a0.size : Int) 1 14 true _ A12.out) ?_; rintro e w' ⟨rfl, ⟨nd, rfl⟩⟩; refine ⟨_, rfl, ?_⟩))
      go_ret
      exact ⟨oS, oD⟩
     ·rw [if_neg c14] at H
      have c14b0 : (a0.toList == ([46] : List UInt8)) = false := beq_eq_false_iff_ne.mpr c14
      have c14b1 : (a0.toList != ([46] : List UInt8)) = true := bne_iff_ne.mpr c14
      obtain rfl := Option.some.inj H
      go_wp2_with (first | ((with_reducible refine gate_callee (f := 87) rfl ?_); refine gl_ 37 Try.func87 (spec_l1In.calls (a0.size : Int) 1 14 true _ A12.out) ?_; rintro e w' ⟨rfl, ⟨nd, rfl⟩⟩; refine ⟨_, rfl, ?_⟩))
      go_ret
      exact ⟨oS, oD⟩
    ·obtain rfl := Option.some.inj H
     go_wp2_with (first | ((with_reducible refine gate_callee (f := 87) rfl ?_); refine gl_ 37 Try.func87 (spec_l1In.calls (a0.size : Int) 1 14 false _ A12.out) ?_; rintro e w' ⟨rfl, ⟨nd, rfl⟩⟩; refine ⟨_, rfl, ?_⟩))
     go_ret
     exact ⟨oS, oD⟩

/-! ### spec_JoinPath: function 19 -/
def spec_JoinPath.l0 : Nat → List ByteArray → ByteArray → Int → Option (ByteArray)
 | 0, _, _, _ => none
 | k + 1, x0, x3, x4 => if x4 < (x0.length : Int) then (if 0 ≤ x4 then ((spec_NameOk.f k (rdOf ByteArray.empty x0 x4)).bind fun t106 => (if t106 = true then (if (x0.length : Int) > 30 then (some (⟨#[]⟩ : ByteArray)) else (if x3.size + 1 ≤ 9223372036854775807 then (if (x3 ++ (⟨#[47]⟩ : ByteArray)).size + (rdOf ByteArray.empty x0 x4).size ≤ 9223372036854775807 then (spec_JoinPath.l0 k x0 ((x3 ++ (⟨#[47]⟩ : ByteArray)) ++ (rdOf ByteArray.empty x0 x4)) (wrap64 (x4 + 1))) else (none)) else (none))) else (some (⟨#[]⟩ : ByteArray)))) else (none)) else (some x3)
def spec_JoinPath.f (k : Nat) (l0 : List ByteArray) : Option (ByteArray) := if (l0.length : Int) = 0 then (some (⟨#[47]⟩ : ByteArray)) else (spec_JoinPath.l0 k l0 (⟨#[]⟩ : ByteArray) 0)
set_option maxHeartbeats 8000000 in
set_option maxRecDepth 100000 in
theorem spec_JoinPath.calls (k : Nat) (A0 : Option Addr) (c0 : Nat) (l0 : List ByteArray) (r : ByteArray) (w : World) (hr0 : Kd.C Kd.string w A0 l0.length l0) (hc0 : l0.length ≤ c0) (h : spec_JoinPath.f k l0 = some r) :
  Calls Try.prog 19 #[.slice A0 l0.length c0] w fun e w' => e = .returned (.string r) ∧ Drawn0 w w' := by
 have HR0 := Aside0.mk hr0
 have HC0 := Aside0.mk hc0
 clear hr0 hc0
 unfold spec_JoinPath.f at h
 have H := h
 clear h
 by_cases c2 : (l0.length : Int) = 0
 ·rw [if_pos c2] at H
  have c2b0 : ((l0.length : Int) == 0) = true := beq_iff_eq.mpr c2
  have c2b1 : ((l0.length : Int) != 0) = false := bne_eq_false_iff_eq.mpr c2
  clear c2
  obtain rfl := Option.some.inj H
  go_enter Try.func19, Try.ntmps19
  go_wp2
  go_ret
  exact ⟨oS, oD⟩
 ·rw [if_neg c2] at H
  have c2b0 : ((l0.length : Int) == 0) = false := beq_eq_false_iff_ne.mpr c2
  have c2b1 : ((l0.length : Int) != 0) = true := bne_iff_ne.mpr c2
  have c2b2 : ¬ (l0 = []) := fun h_ => c2 (by rw [h_]; rfl)
  have H' := Aside0.mk H
  clear H
  go_enter Try.func19, Try.ntmps19
  go_wp2
  go_loopg [3, 4] k (fun kq v3 v4 w' => ∃ (x3_1 : ByteArray) (x4_1 : Int), v3 = .string x3_1 ∧ v4 = .int .i64 x4_1 ∧ Aside0 (spec_JoinPath.l0 kq l0 x3_1 x4_1 = some r) ∧ Aside0 (kq ≤ k) ∧ Drawn0 w w')
  case atStart => exact ⟨((⟨#[]⟩ : ByteArray)), (0), oS, oS, H', ⟨Nat.le_refl _⟩, oD⟩
  case round =>
   clear H'
   try clear c2
   obtain ⟨x3_1, x4_1, rfl, rfl, HA, HK1, ⟨m1, rfl⟩⟩ := hrel
   cases gk with
   | zero => exact absurd HA.out (by simp [spec_JoinPath.l0])
   | succ k1 =>
    have H := HA.out
    clear HA
    simp only [spec_JoinPath.l0] at H
    replace H := itD H
    rcases H with ⟨c3b0, H⟩ | ⟨c3b0, H⟩
    ·replace H := itD H
     rcases H with ⟨c4b0, H⟩ | ⟨c4b0, H⟩
     ·replace H := bA H
      obtain ⟨t106, A5, H⟩ := H
      try dsimp only at H
      replace H := itB H
      rcases H with ⟨rfl, H⟩ | ⟨rfl, H⟩
      ·by_cases c7 : (l0.length : Int) > 30
       ·rw [if_pos c7] at H
        have c7b0 : decide (30 < (l0.length : Int)) = true := decide_eq_true c7
        have c7b1 : decide (30 < l0.length) = true := decide_eq_true (by omega)
        clear c7
        obtain rfl := Option.some.inj H
        have p105 : (0 ≤ (x4_1 : Int)) = True := oT
        have q105 : (x4_1 < (l0.length : Int)) = True := oT
        obtain ⟨ad105, e105, hx105_0⟩ := Kd.at_string HR0.out x4_1 oa oa
        cases e105
        go_wp2_with (first | ((with_reducible refine gate_callee (f := 67) rfl ?_); refine gl_ 18 Try.func67 (spec_NameOk.calls k1 (rdOf ByteArray.empty l0 x4_1) true _ A5.out) ?_; rintro e w' ⟨rfl, ⟨nd, rfl⟩⟩; refine ⟨_, rfl, ?_⟩))
        go_ret
        exact ⟨oS, oD⟩
       ·rw [if_neg c7] at H
        have c7b0 : decide (30 < (l0.length : Int)) = false := decide_eq_false c7
        have c7b1 : decide (30 < l0.length) = false := decide_eq_false (by omega)
        clear c7
        by_cases c8 : x3_1.size + 1 ≤ 9223372036854775807
        ·rw [if_pos c8] at H
         have c8b0 := eq_true c8
         have c8b1 : decide (x3_1.size + 1 ≤ 9223372036854775807) = true := decide_eq_true c8
         try have c8b2 : (9223372036854775807 < x3_1.size + 1) = False := eq_false (Nat.not_lt.2 c8)
         by_cases c9 : (x3_1 ++ (⟨#[47]⟩ : ByteArray)).size + (rdOf ByteArray.empty l0 x4_1).size ≤ 9223372036854775807
         ·rw [if_pos c9] at H
          have c9b0 := eq_true c9
          have c9b1 : decide ((x3_1 ++ (⟨#[47]⟩ : ByteArray)).size + (rdOf ByteArray.empty l0 x4_1).size ≤ 9223372036854775807) = true := decide_eq_true c9
          try have c9b2 : (9223372036854775807 < (x3_1 ++ (⟨#[47]⟩ : ByteArray)).size + (rdOf ByteArray.empty l0 x4_1).size) = False := eq_false (Nat.not_lt.2 c9)
          have H' := Aside0.mk H
          clear H
          have p105 : (0 ≤ (x4_1 : Int)) = True := oT
          have q105 : (x4_1 < (l0.length : Int)) = True := oT
          obtain ⟨ad105, e105, hx105_0⟩ := Kd.at_string HR0.out x4_1 oa oa
          cases e105
          go_wp2_with (first | ((with_reducible refine gate_callee (f := 67) rfl ?_); refine gl_ 18 Try.func67 (spec_NameOk.calls k1 (rdOf ByteArray.empty l0 x4_1) true _ A5.out) ?_; rintro e w' ⟨rfl, ⟨nd, rfl⟩⟩; refine ⟨_, rfl, ?_⟩; have p107 : (0 ≤ (x4_1 : Int)) = True := oT; have q107 : (x4_1 < (l0.length : Int)) = True := oT; obtain ⟨ad107, e107, hx107_0⟩ := Kd.at_string HR0.out x4_1 oa oa; obtain rfl : ad105 = ad107 := (by injection e107)))
          go_roundg k1
          case measure => have := HK1.out; omega
          case rel => exact ⟨((x3_1 ++ (⟨#[47]⟩ : ByteArray)) ++ (rdOf ByteArray.empty l0 x4_1)), (wrap64 (x4_1 + 1)), oS, oS, H', ⟨by have := HK1.out; omega⟩, oD⟩
         ·rw [if_neg c9] at H
          exact absurd H (by simp)
        ·rw [if_neg c8] at H
         exact absurd H (by simp)
      ·obtain rfl := Option.some.inj H
       have p105 : (0 ≤ (x4_1 : Int)) = True := oT
       have q105 : (x4_1 < (l0.length : Int)) = True := oT
       obtain ⟨ad105, e105, hx105_0⟩ := Kd.at_string HR0.out x4_1 oa oa
       cases e105
       go_wp2_with (first | ((with_reducible refine gate_callee (f := 67) rfl ?_); refine gl_ 18 Try.func67 (spec_NameOk.calls k1 (rdOf ByteArray.empty l0 x4_1) false _ A5.out) ?_; rintro e w' ⟨rfl, ⟨nd, rfl⟩⟩; refine ⟨_, rfl, ?_⟩))
       go_ret
       exact ⟨oS, oD⟩
     ·cases H
    ·obtain rfl := Option.some.inj H
     go_wp2
     go_ret
     exact ⟨oS, oD⟩

/-! ### laws_toStringS: function 20 -/
def laws_toStringS.l0 : Nat → List ByteArray → List ByteArray → Int → Option (List ByteArray)
 | 0, _, _, _ => none
 | k + 1, x0, x3, x4 => if x4 < (x0.length : Int) then (if 0 ≤ x4 then (if x4 < (x3.length : Int) then (laws_toStringS.l0 k x0 (x3.set (x4 : Int).toNat (rdOf ByteArray.empty x0 x4)) (wrap64 (x4 + 1))) else (none)) else (none)) else (some x3)
def laws_toStringS.f (k : Nat) (l0 : List ByteArray) : Option (List ByteArray) := if 0 ≤ (l0.length : Int) then (if ((l0.length : Int) : Int).toNat ≤ 17592186044416 then (laws_toStringS.l0 k l0 (List.replicate ((l0.length : Int) : Int).toNat (⟨#[]⟩ : ByteArray)) 0) else (none)) else (none)
set_option maxHeartbeats 8000000 in
set_option maxRecDepth 100000 in
theorem laws_toStringS.calls (k : Nat) (A0 : Option Addr) (c0 : Nat) (l0 : List ByteArray) (r : List ByteArray) (w : World) (hr0 : Kd.C Kd.string w A0 l0.length l0) (hc0 : l0.length ≤ c0) (h : laws_toStringS.f k l0 = some r) :
  Calls Try.prog 20 #[.slice A0 l0.length c0] w fun e w' => ∃ v0_ : Value, e = .returned (v0_) ∧ Kd.R Kd.string 9 w' w.heap.size (fun _ => True) v0_ r ∧ Below w.heap.size w w' := by
 have HR0 := Aside0.mk hr0
 have HC0 := Aside0.mk hc0
 clear hr0 hc0
 have HB := Aside0.mk (Below.refl w.heap.size w)
 unfold laws_toStringS.f at h
 have H := h
 clear h
 by_cases c2 : 0 ≤ (l0.length : Int)
 ·rw [if_pos c2] at H
  have c2b0 := eq_true c2
  have c2b1 : decide (0 ≤ (l0.length : Int)) = true := decide_eq_true c2
  clear c2
  by_cases c3 : ((l0.length : Int) : Int).toNat ≤ 17592186044416
  ·rw [if_pos c3] at H
   have c3b0 := eq_true c3
   have c3b1 : decide (((l0.length : Int) : Int).toNat ≤ 17592186044416) = true := decide_eq_true c3
   clear c3
   obtain ⟨y108, hy108⟩ : ∃ y_ : List ByteArray, y_ = (List.replicate ((l0.length : Int) : Int).toNat (⟨#[]⟩ : ByteArray)) := ⟨_, rfl⟩
   replace H : (laws_toStringS.l0 k l0 y108 0) = some r := by first | (rw [hy108]; with_reducible exact H) | (have H2_ := (Option.bind_some _ _).symm.trans H; rw [hy108]; with_reducible exact H2_) | (have H2_ := (Option.bind_some _ _).symm.trans H; with_reducible exact H2_) | with_reducible exact H | (rw [hy108]; exact H) | exact H
   have Ny108 := Aside0.mk hy108
   clear hy108
   have H' := Aside0.mk H
   clear H
   go_enter Try.func20, Try.ntmps20
   go_wp2_with (first | ((with_reducible refine gate_dst (N := 7) rfl ?_); refine Kd.R_make Kd.string _ 9 rfl (N := 7) rfl 22 _ _ rfl (l0.length : Int) rfl rfl Try.underlying22 (.string ⟨#[]⟩) 16 info9 rfl (by decide) (by omega) (⟨#[]⟩ : ByteArray) (ok := fun _ => True) (okp := fun _ => True) rfl (fun _ hk => hk) trivial oa (Nat.le_trans (Nat.mul_le_mul_right _ (oa : (l0.length : Int).toNat ≤ 17592186044416)) (by omega)) (Below.refl _ _) (Nat.le_refl _) ?_; intro v109 w4 ho5 hb hg_ hnew_; clear hg_ hnew_; (first | rw [← Ny108.out] at ho5 | (simp only [Int.reduceToNat] at ho5; rw [← Ny108.out] at ho5)); have HO110 := Aside0.mk (Kd.R_lower ho5 (below_size oB)); replace HB := Aside0.mk (below_step oB hb); clear hb ho5))
   go_loopg [4] k (fun kq v4 w' => ∃ (x3_1 : List ByteArray) (x4_1 : Int), v4 = .int .i64 x4_1 ∧ Aside0 (laws_toStringS.l0 kq l0 x3_1 x4_1 = some r) ∧ Aside0 (kq ≤ k) ∧ Aside0 (Kd.R Kd.string 9 w' w.heap.size (fun _ => True) v109 x3_1) ∧ Aside0 (Below w.heap.size w w'))
   case atStart => exact ⟨(y108), (0), oS, H', ⟨Nat.le_refl _⟩, ⟨oR HO110⟩, ⟨oB⟩⟩
   case round =>
    clear H'
    try clear c2
    try clear c2b0
    try clear c2b1
    try clear c3
    obtain ⟨x3_1, x4_1, rfl, HA, HK1, HO_3, HB⟩ := hrel
    cases gk with
    | zero => exact absurd HA.out (by simp [laws_toStringS.l0])
    | succ k1 =>
     have H := HA.out
     clear HA
     simp only [laws_toStringS.l0] at H
     replace H := itD H
     rcases H with ⟨c6b0, H⟩ | ⟨c6b0, H⟩
     ·replace H := itD H
      rcases H with ⟨c7b0, H⟩ | ⟨c7b0, H⟩
      ·replace H := itD H
       rcases H with ⟨c8b0, H⟩ | ⟨c8b0, H⟩
       ·obtain ⟨y112, hy112⟩ : ∃ y_ : List ByteArray, y_ = (x3_1.set (x4_1 : Int).toNat (rdOf ByteArray.empty l0 x4_1)) := ⟨_, rfl⟩
        replace H : (laws_toStringS.l0 k1 l0 y112 (wrap64 (x4_1 + 1))) = some r := by first | (rw [hy112]; with_reducible exact H) | (have H2_ := (Option.bind_some _ _).symm.trans H; rw [hy112]; with_reducible exact H2_) | (have H2_ := (Option.bind_some _ _).symm.trans H; with_reducible exact H2_) | with_reducible exact H | (rw [hy112]; exact H) | exact H
        have Ny112 := Aside0.mk hy112
        clear hy112
        have H' := Aside0.mk H
        clear H
        have p111 : (0 ≤ (x4_1 : Int)) = True := oT
        have q111 : (x4_1 < (l0.length : Int)) = True := oT
        obtain ⟨ad111, e111, hx111_0⟩ := Kd.at_string HR0.out x4_1 oa oa
        cases e111
        replace hx111_0 := cB HB hx111_0
        have p9 : 0 ≤ (x4_1 : Int) := oa
        have q9 : (x4_1 : Int) < ((x3_1.length : Int) : Int) := oa
        obtain ⟨go9, co9, eo9, gb9, gl9, cl9, HG9⟩ := Kd.R_form HO_3.out (by omega)
        (first | cases eo9 | (injection eo9 with ea_ en_ ec_; (first | subst ea_ | (injection ea_ with ea_; subst ea_)); subst ec_; clear en_))
        have GB9 := Aside0.mk gb9
        have GG9 := Aside0.mk HG9
        clear gb9 gl9 HG9
        obtain ⟨hx9_0, hf9_0⟩ := Kd.R_celln (⟨#[]⟩ : ByteArray) HO_3.out (x4_1 : Int) p9 q9
        replace p9 := eq_true p9
        replace q9 := eq_true q9
        have HP10 := Kd.R_putg HO_3.out (x4_1 : Int) (rdOf ByteArray.empty l0 x4_1)
        go_wp2_with (first | ((with_reducible refine gate_store (t := 9) (p := 20) rfl ?_); refine store_event (t := 9) (p := 20) (v := ?vo_w11) (w1 := (wr.setCell ⟨go9, (x4_1 : Int).toNat, none⟩ (.string (rdOf ByteArray.empty l0 x4_1)))) ?hg ?ho ?hn ?hr ?_; (case ho => rfl); (case hg => rfl); (case hn => rfl); (case hr => first | (go_simp; done) | (go_simp; rfl)); intro w11 hw; have hg : wr.grownBy w11 (some go9) := (by rw [hw]; exact HP10.2); have hp_ : Kd.R Kd.string 9 w11 w.heap.size (fun _ => True) (.slice (some ⟨go9, 0, none⟩) x3_1.length co9) y112 := (by rw [hw, Ny112.out]; exact HP10.1); clear HP10; replace HO_3 := Aside0.mk (hp_); replace HB := Aside0.mk ((by rw [hw]; exact below_set (HB.out) GB9.out : Below w.heap.size w w11)); clear hg hw hp_))
        go_roundg k1
        case measure => have := HK1.out; omega
        case rel => exact ⟨(y112), (wrap64 (x4_1 + 1)), oS, H', ⟨by have := HK1.out; omega⟩, ⟨oR HO_3⟩, ⟨oB⟩⟩
       ·cases H
      ·cases H
     ·obtain rfl := Option.some.inj H
      go_wp2
      go_ret
      exact ⟨_, oE, oR HO_3, oB⟩
  ·rw [if_neg c3] at H
   exact absurd H (by simp)
 ·rw [if_neg c2] at H
  exact absurd H (by simp)

-- NOT PRINTED: function 147 (slices_IndexFunc_string_string)

-- NOT PRINTED: function 120 (slices_ContainsFunc_string_string)

/-! ### impl_namesOk: function 68 -/
theorem namesOk1.calls (k : Nat) (s : ByteArray) (t : Bool) (w : World) (h : impl_NameOk.f k s = some t) :
  Calls Try.prog 121 #[.string s] w fun e w' => e = .returned (.bool (!t)) ∧ Below w.heap.size w w' := by
 have hc := impl_NameOk.calls k s t w h
 clear h
 go_enter Try.func121, Try.ntmps121
 go_wp2_with (go_at_call 92; refine hc.mono ?_; rintro e w1 ⟨rfl, m, rfl⟩)
 go_ret
 exact ⟨rfl, pw_below_drewN (Below.refl _ _) m⟩
/-- The first of the names that is not right, counted from i on. -/
def badR (k : Nat) : List ByteArray → Nat → Option Int
 | [], _ => some (-1)
 | x :: l, i => (impl_NameOk.f k x).bind fun t => if t = true then badR k l (i + 1) else some (i : Int)
set_option maxHeartbeats 1000000 in
set_option maxRecDepth 100000 in
theorem namesIdx.calls (k : Nat) (A0 : Option Addr) (c0 : Nat) (l : List ByteArray) (r : Int) (w : World) (hr : Kd.C Kd.string w A0 l.length l) (hl : l.length ≤ 9223372036854775807) (h : badR k l 0 = some r) :
  Calls Try.prog 147 #[.slice A0 l.length c0, .func (.func 121) #[] #[]] w fun e w' => e = .returned (.int .i64 r) ∧ Below w.heap.size w w' := by
 have H0 := Aside0.mk h
 clear h
 go_enter Try.func147, Try.ntmps147
 go_wp2
 go_loopg [5, 8] l.length (fun gg _ s8 wr => ∃ kk : Nat, kk ≤ l.length ∧ l.length - kk ≤ gg ∧ s8 = .int .i64 kk ∧ Aside0 (Below w.heap.size w wr) ∧ Aside0 (badR k (l.drop kk) kk = some r))
 case atStart => exact ⟨0, Nat.zero_le _, by omega, rfl, ⟨Below.refl _ w⟩, H0⟩
 case round =>
  clear H0
  obtain ⟨kk, hkk, hg, rfl, BW, HA⟩ := hrel
  by_cases hlt : kk < l.length
  ·have hltz : (kk : Int) < (l.length : Int) := by omega
   have h1 := HA.out
   rw [List.drop_eq_getElem_cons hlt, badR] at h1
   replace h1 := bA h1
   obtain ⟨t, A1, h1⟩ := h1
   obtain ⟨ad, c, e0, hcl, hK, hcell⟩ := Kd.C_get (Kd.C_below hr BW.out) ⟨#[]⟩ (kk : Int) (by omega) hltz
   cases e0
   have hx : l.getD (kk : Int).toNat ⟨#[]⟩ = l[kk] := by rw [Int.toNat_natCast, List.getD_eq_getElem?_getD, List.getElem?_eq_getElem hlt]; rfl
   rw [hx] at hK
   obtain rfl : c = [.string l[kk]] := hK
   have h0 : wr.cell? (ad.add kk) = some (.string l[kk]) := by have := hcell 0 _ rfl; simpa [Kd.string, Kd.scalar] using this
   clear hcell hcl hx
   cases t with
   | true =>
    have H' := Aside0.mk h1
    clear h1
    go_wp2_with (go_at_call 121; refine (namesOk1.calls k l[kk] true _ A1.out).mono ?_; rintro e w1 ⟨rfl, hb⟩)
    go_roundg (l.length - (kk + 1))
    case measure => omega
    case rel => exact ⟨kk + 1, by omega, by omega, by go_num, ⟨below_then BW.out BW.out.size hb⟩, H'⟩
   | false =>
    obtain rfl := Option.some.inj h1
    go_wp2_with (go_at_call 121; refine (namesOk1.calls k l[kk] false _ A1.out).mono ?_; rintro e w1 ⟨rfl, hb⟩)
    go_ret
    exact ⟨rfl, below_then BW.out BW.out.size hb⟩
  ·have hltz : ¬ (kk : Int) < (l.length : Int) := by omega
   obtain rfl : kk = l.length := by omega
   have h1 := HA.out
   rw [List.drop_length, badR] at h1
   obtain rfl := Option.some.inj h1
   go_wp2
   go_ret
   exact ⟨rfl, BW.out⟩
theorem namesAny.calls (k : Nat) (A0 : Option Addr) (c0 : Nat) (l : List ByteArray) (r : Int) (w : World) (hr : Kd.C Kd.string w A0 l.length l) (hl : l.length ≤ 9223372036854775807) (h : badR k l 0 = some r) :
  Calls Try.prog 120 #[.slice A0 l.length c0, .func (.func 121) #[] #[]] w fun e w' => e = .returned (.bool (decide (0 ≤ r))) ∧ Below w.heap.size w w' := by
 have hc := namesIdx.calls k A0 c0 l r w hr hl h
 clear hr h
 go_enter Try.func120, Try.ntmps120
 go_wp2_with (go_at_call 147; refine hc.mono ?_; rintro e w1 ⟨rfl, hb⟩)
 go_ret
 exact ⟨rfl, hb⟩
def impl_namesOk.f (k : Nat) (l : List ByteArray) : Option Bool := if l.length ≤ 30 then (badR k l 0).bind fun r => some (!decide (0 ≤ r)) else some false
theorem impl_namesOk.calls (k : Nat) (A0 : Option Addr) (c0 : Nat) (l : List ByteArray) (r : Bool) (w : World) (hr : Kd.C Kd.string w A0 l.length l) (hc0 : l.length ≤ c0) (h : impl_namesOk.f k l = some r) :
  Calls Try.prog 68 #[.slice A0 l.length c0] w fun e w' => e = .returned (.bool r) ∧ Below w.heap.size w w' := by
 unfold impl_namesOk.f at h
 split at h
 case isTrue hl =>
  replace h := bA h
  obtain ⟨i, A1, h⟩ := h
  obtain rfl := Option.some.inj h
  have hc := namesAny.calls k A0 c0 l i w hr (by omega) A1.out
  have hlz : decide ((l.length : Int) ≤ 30) = true := decide_eq_true (by omega)
  clear hr h hl hc0
  go_enter Try.func68, Try.ntmps68
  go_wp2_with (go_at_call 120; refine hc.mono ?_; rintro e w1 ⟨rfl, hb⟩)
  go_ret
  exact ⟨rfl, hb⟩
 case isFalse hl =>
  obtain rfl := Option.some.inj h
  have hlz : decide ((l.length : Int) ≤ 30) = false := decide_eq_false (by omega)
  clear hr h hl hc0
  go_enter Try.func68, Try.ntmps68
  go_wp2
  go_ret
  exact ⟨rfl, Below.refl _ _⟩
-- NOT PRINTED: function 167 (abi_NoEscape)

-- NOT PRINTED: function 148 (strings_Builder_copyCheck)

-- NOT PRINTED: function 168 (bytealg_MakeNoZero)

-- NOT PRINTED: function 149 (strings_Builder_grow)

-- NOT PRINTED: function 122 (strings_Builder_Grow)

-- NOT PRINTED: function 123 (strings_Builder_WriteString)

-- NOT PRINTED: function 124 (strings_Builder_String)

-- NOT PRINTED: function 69 (strings_Join)

/-! ### impl_JoinPath: function 21 -/
def joinB (l : List ByteArray) : ByteArray := ⟨(Lib.join (l.map (·.data.toList)) [47]).toArray⟩
theorem joinC (A : Option Addr) (c : Nat) (l : List ByteArray) (w : World) (hr : Kd.C Kd.string w A l.length l) (hA : ∀ ad, A = some ad → ad.spot = none) (hc : l.length ≤ c) (hN : l.length ≤ 140737488355328) (hlen : (joinB l).size ≤ 140737488355328) :
  Calls Try.prog 69 #[.slice A l.length c, .string ⟨#[47]⟩] w fun e w' => e = .returned (.string (joinB l)) ∧ Below w.heap.size w w' := by
 by_cases h0 : l.length = 0
 ·obtain rfl := List.eq_nil_of_length_eq_zero h0
  exact (Any.strings_Join_none Try.lays156 Try.Builder_Extra_156 A c ⟨#[47]⟩ w).mono fun e w' ⟨he, hw⟩ => ⟨he, hw ▸ Below.refl _ _⟩
 ·obtain ⟨ad, c1, e0, _, hK, hcell⟩ := Kd.C_get hr ⟨#[]⟩ 0 (by omega) (by omega)
  subst e0
  have hsp := hA ad rfl
  obtain ⟨bk, o, sp⟩ := ad
  have hsp : sp = none := hsp
  subst hsp
  have hcells : ∀ (j : Nat) x, l[j]? = some x → w.cell? ⟨bk, o + j, none⟩ = some (.string x) := fun j x hx => by
   obtain ⟨hj, hx⟩ := List.getElem?_eq_some_iff.1 hx
   obtain ⟨ad', c', e', _, hK', hcell'⟩ := Kd.C_get hr ⟨#[]⟩ (j : Int) (by omega) (by omega)
   injection e' with e'
   subst e'
   have hg : l.getD (j : Int).toNat ⟨#[]⟩ = x := by rw [Int.toNat_natCast, List.getD_eq_getElem?_getD, List.getElem?_eq_getElem hj]; exact hx
   rw [hg] at hK'
   obtain rfl : c' = [.string x] := hK'
   have := hcell' 0 _ rfl
   simpa [Kd.string, Kd.scalar, Addr.add_lit] using this
  have hbk : bk < w.heap.size := World.block_lt_of_cell? w _ (hcells 0 l[0] (List.getElem?_eq_getElem (by omega)))
  exact Any.strings_Join Try.lays156 Try.Builder_Extra_156 bk o c l ⟨#[47]⟩ w hcells hbk hN hc (by simpa [joinB, ByteArray.size] using hlen)
def impl_JoinPath.f (k : Nat) (l : List ByteArray) : Option ByteArray := (impl_namesOk.f k l).bind fun b => if b = true then (if l.length ≤ 140737488355328 ∧ (joinB l).size ≤ 140737488355327 then some ((⟨#[47]⟩ : ByteArray) ++ joinB l) else none) else some ⟨#[]⟩
theorem impl_JoinPath.calls (k : Nat) (A0 : Option Addr) (c0 : Nat) (l0 : List ByteArray) (r : ByteArray) (w : World) (hr : Kd.C Kd.string w A0 l0.length l0) (hc0 : l0.length ≤ c0) (hA : ∀ ad, A0 = some ad → ad.spot = none) (h : impl_JoinPath.f k l0 = some r) :
  Calls Try.prog 21 #[.slice A0 l0.length c0] w fun e w' => e = .returned (.string r) ∧ Below w.heap.size w w' := by
 unfold impl_JoinPath.f at h
 replace h := bA h
 obtain ⟨b, A1, h⟩ := h
 have hn := impl_namesOk.calls k A0 c0 l0 b w hr hc0 A1.out
 cases b with
 | true =>
  rw [if_pos rfl] at h
  split at h
  case isFalse => cases h
  case isTrue hl =>
  obtain rfl := Option.some.inj h
  have hs : 1 + (joinB l0).size ≤ 9223372036854775807 := by omega
  have hj := fun w1 (hb : Below w.heap.size w w1) => joinC A0 c0 l0 w1 (Kd.C_below hr hb) hA hc0 hl.1 (by omega)
  clear h hr hA hl A1 hc0
  go_enter Try.func21, Try.ntmps21
  go_wp2_with (first
   | (go_at_call 68; refine hn.mono ?_; rintro e w1 ⟨rfl, hb⟩)
   | (go_at_call 69; refine (hj _ hb).mono ?_; rintro e w2 ⟨rfl, hb2⟩))
  go_ret
  exact ⟨rfl, below_then hb hb.size hb2⟩
 | false =>
  rw [if_neg (by simp)] at h
  obtain rfl := Option.some.inj h
  clear h hr hA A1 hc0
  go_enter Try.func21, Try.ntmps21
  go_wp2_with (go_at_call 68; refine hn.mono ?_; rintro e w1 ⟨rfl, hb⟩)
  go_ret
  exact ⟨rfl, hb⟩
/-! ### laws_eqStringS: function 22 -/
def laws_eqStringS.l0 : Nat → List ByteArray → List ByteArray → Int → Option (Bool)
 | 0, _, _, _ => none
 | k + 1, x0, x1, x5 => if x5 < (x0.length : Int) then (if 0 ≤ x5 then (if x5 < (x1.length : Int) then (if (rdOf ByteArray.empty x0 x5).toList = (rdOf ByteArray.empty x1 x5).toList then (laws_eqStringS.l0 k x0 x1 (wrap64 (x5 + 1))) else (some false)) else (none)) else (none)) else (some true)
def laws_eqStringS.f (k : Nat) (l0 : List ByteArray) (l1 : List ByteArray) : Option (Bool) := if (l0.length : Int) = (l1.length : Int) then (laws_eqStringS.l0 k l0 l1 0) else (some false)
set_option maxHeartbeats 8000000 in
set_option maxRecDepth 100000 in
theorem laws_eqStringS.calls (k : Nat) (A0 : Option Addr) (c0 : Nat) (l0 : List ByteArray) (A1 : Option Addr) (c1 : Nat) (l1 : List ByteArray) (r : Bool) (w : World) (hr0 : Kd.C Kd.string w A0 l0.length l0) (hc0 : l0.length ≤ c0) (hr1 : Kd.C Kd.string w A1 l1.length l1) (hc1 : l1.length ≤ c1) (h : laws_eqStringS.f k l0 l1 = some r) :
  Calls Try.prog 22 #[.slice A0 l0.length c0, .slice A1 l1.length c1] w fun e w' => e = .returned (.bool r) ∧ Drawn0 w w' := by
 have HR0 := Aside0.mk hr0
 have HC0 := Aside0.mk hc0
 clear hr0 hc0
 have HR1 := Aside0.mk hr1
 have HC1 := Aside0.mk hc1
 clear hr1 hc1
 unfold laws_eqStringS.f at h
 have H := h
 clear h
 by_cases c3 : (l0.length : Int) = (l1.length : Int)
 ·rw [if_pos c3] at H
  have c3b0 : ((l0.length : Int) == (l1.length : Int)) = true := beq_iff_eq.mpr c3
  have c3b1 : ((l0.length : Int) != (l1.length : Int)) = false := bne_eq_false_iff_eq.mpr c3
  have c3b2 : (l0.length == l1.length) = true := by first | simpa using c3 | (simp at c3 ⊢; omega)
  clear c3
  have H' := Aside0.mk H
  clear H
  go_enter Try.func22, Try.ntmps22
  go_wp2
  repeat (go_quiet (fail); try go_wp2)
  go_loopg [5] k (fun kq v5 w' => ∃ (x5_1 : Int), v5 = .int .i64 x5_1 ∧ Aside0 (laws_eqStringS.l0 kq l0 l1 x5_1 = some r) ∧ Aside0 (kq ≤ k) ∧ Drawn0 w w')
  case atStart => exact ⟨(0), oS, H', ⟨Nat.le_refl _⟩, oD⟩
  case round =>
   clear H'
   try clear c1
   try clear c3
   obtain ⟨x5_1, rfl, HA, HK1, ⟨m1, rfl⟩⟩ := hrel
   cases gk with
   | zero => exact absurd HA.out (by simp [laws_eqStringS.l0])
   | succ k1 =>
    have H := HA.out
    clear HA
    simp only [laws_eqStringS.l0] at H
    replace H := itD H
    rcases H with ⟨c4b0, H⟩ | ⟨c4b0, H⟩
    ·replace H := itD H
     rcases H with ⟨c5b0, H⟩ | ⟨c5b0, H⟩
     ·replace H := itD H
      rcases H with ⟨c6b0, H⟩ | ⟨c6b0, H⟩
      ·by_cases c7 : (rdOf ByteArray.empty l0 x5_1).toList = (rdOf ByteArray.empty l1 x5_1).toList
       ·rw [if_pos c7] at H
        have c7b0 : ((rdOf ByteArray.empty l0 x5_1).toList == (rdOf ByteArray.empty l1 x5_1).toList) = true := beq_iff_eq.mpr c7
        have c7b1 : ((rdOf ByteArray.empty l0 x5_1).toList != (rdOf ByteArray.empty l1 x5_1).toList) = false := bne_eq_false_iff_eq.mpr c7
        clear c7
        have H' := Aside0.mk H
        clear H
        have p114 : (0 ≤ (x5_1 : Int)) = True := oT
        have q114 : (x5_1 < (l0.length : Int)) = True := oT
        obtain ⟨ad114, e114, hx114_0⟩ := Kd.at_string HR0.out x5_1 oa oa
        cases e114
        have p115 : (0 ≤ (x5_1 : Int)) = True := oT
        have q115 : (x5_1 < (l1.length : Int)) = True := oT
        obtain ⟨ad115, e115, hx115_0⟩ := Kd.at_string HR1.out x5_1 oa oa
        cases e115
        go_wp2
        repeat (go_quiet (fail); try go_wp2)
        go_roundg k1
        case measure => have := HK1.out; omega
        case rel => exact ⟨(wrap64 (x5_1 + 1)), oS, H', ⟨by have := HK1.out; omega⟩, oD⟩
       ·rw [if_neg c7] at H
        have c7b0 : ((rdOf ByteArray.empty l0 x5_1).toList == (rdOf ByteArray.empty l1 x5_1).toList) = false := beq_eq_false_iff_ne.mpr c7
        have c7b1 : ((rdOf ByteArray.empty l0 x5_1).toList != (rdOf ByteArray.empty l1 x5_1).toList) = true := bne_iff_ne.mpr c7
        obtain rfl := Option.some.inj H
        have p114 : (0 ≤ (x5_1 : Int)) = True := oT
        have q114 : (x5_1 < (l0.length : Int)) = True := oT
        obtain ⟨ad114, e114, hx114_0⟩ := Kd.at_string HR0.out x5_1 oa oa
        cases e114
        have p115 : (0 ≤ (x5_1 : Int)) = True := oT
        have q115 : (x5_1 < (l1.length : Int)) = True := oT
        obtain ⟨ad115, e115, hx115_0⟩ := Kd.at_string HR1.out x5_1 oa oa
        cases e115
        go_wp2
        repeat (go_quiet (fail); try go_wp2)
        go_ret
        exact ⟨oS, oD⟩
      ·cases H
     ·cases H
    ·obtain rfl := Option.some.inj H
     go_wp2
     repeat (go_quiet (fail); try go_wp2)
     go_ret
     exact ⟨oS, oD⟩
 ·rw [if_neg c3] at H
  have c3b0 : ((l0.length : Int) == (l1.length : Int)) = false := beq_eq_false_iff_ne.mpr c3
  have c3b1 : ((l0.length : Int) != (l1.length : Int)) = true := bne_iff_ne.mpr c3
  have c3b2 : (l0.length == l1.length) = false := by first | simpa using c3 | (simp at c3 ⊢; omega)
  obtain rfl := Option.some.inj H
  go_enter Try.func22, Try.ntmps22
  go_wp2
  repeat (go_quiet (fail); try go_wp2)
  go_ret
  exact ⟨oS, oD⟩

/-! ### laws_FnExactJoinPath: function 3 -/
theorem rowPlain {α : Type} {d : Kd α} {e base n c : Nat} {ok : Nat → Prop} {w : World} {A : Option Addr} {xs : List α} (h : d.R e w base ok (.slice A n c) xs) : ∀ ad, A = some ad → ad.spot = none := by
 intro ad hA
 subst hA
 obtain ⟨g, rfl⟩ := Kd.R_head h
 rfl
def laws_FnExactJoinPath.f (k : Nat) (l0 : List ByteArray) : Option Bool :=
 (laws_szStringS.f k l0 1048576).bind fun R => if R < 0 then some true else
 (laws_toStringS.f k l0).bind fun t => (spec_JoinPath.f k t).bind fun p => (impl_JoinPath.f k t).bind fun s => (laws_eqStringS.f k t t).bind fun e =>
 if s.data = p.data ∧ e = true then some true else none
set_option maxHeartbeats 4000000 in
set_option maxRecDepth 100000 in
theorem laws_FnExactJoinPath.calls (k : Nat) (A0 : Option Addr) (c0 : Nat) (l0 : List ByteArray) (r : Bool) (w : World) (hr0 : Kd.C Kd.string w A0 l0.length l0) (hc0 : l0.length ≤ c0) (h : laws_FnExactJoinPath.f k l0 = some r) :
  Calls Try.prog 3 #[.slice A0 l0.length c0] w fun e w' => e = .returned (.bool r) ∧ Below w.heap.size w w' := by
 have HR0 := Aside0.mk hr0
 have HC0 := Aside0.mk hc0
 clear hr0 hc0
 have HB := Aside0.mk (Below.refl w.heap.size w)
 unfold laws_FnExactJoinPath.f at h
 replace h := bA h
 obtain ⟨R, H1, h⟩ := h
 split at h
 case isTrue hR =>
  have cR : decide (R < 0) = true := decide_eq_true hR
  obtain rfl := Option.some.inj h
  clear h hR
  go_enter Try.func3, Try.ntmps3
  go_wp2_with fail
  refine (laws_szStringS.calls k _ _ l0 1048576 R _ (kC HR0) HC0.out H1.out).mono ?_
  rintro e w1 ⟨rfl, m, rfl⟩
  go_wp2
  go_ret
  exact ⟨rfl, pw_below_drewN (Below.refl _ _) m⟩
 case isFalse hR =>
 have cR : decide (R < 0) = false := decide_eq_false hR
 clear hR
 replace h := bA h
 obtain ⟨t, H2, h⟩ := h
 replace h := bA h
 obtain ⟨p, H3, h⟩ := h
 replace h := bA h
 obtain ⟨s, H4, h⟩ := h
 replace h := bA h
 obtain ⟨e1, H5, h⟩ := h
 split at h
 case isFalse => cases h
 case isTrue hh =>
 obtain ⟨hsp, rfl⟩ := hh
 obtain rfl : s = p := by cases s; cases p; simpa using hsp
 obtain rfl := Option.some.inj h
 clear h hsp
 go_enter Try.func3, Try.ntmps3
 go_wp2_with fail
 refine (laws_szStringS.calls k _ _ l0 1048576 R _ (kC HR0) HC0.out H1.out).mono ?_
 rintro e w1 ⟨rfl, m1, rfl⟩
 replace HB := Aside0.mk (pw_below_drewN HB.out m1)
 generalize w.drewN m1 = w1 at HB ⊢
 go_wp2_with fail
 refine (laws_toStringS.calls k _ _ l0 t _ (kC HR0) HC0.out H2.out).mono ?_
 rintro e w2 ⟨v1, rfl, hr, hb⟩
 obtain ⟨A1, c1, rfl⟩ := Kd.R_slice hr
 have S1 := Aside0.mk hr
 replace HB := Aside0.mk (below_step oB hb)
 clear hr hb
 go_wp2_with fail
 refine (spec_JoinPath.calls k _ _ t s _ (kO S1) (ko S1) H3.out).mono ?_
 rintro e w3 ⟨rfl, m2, rfl⟩
 replace HB := Aside0.mk (pw_below_drewN HB.out m2)
 clear S1
 generalize w2.drewN m2 = w3 at HB ⊢
 go_wp2_with fail
 refine (laws_toStringS.calls k _ _ l0 t _ (kC HR0) HC0.out H2.out).mono ?_
 rintro e w4 ⟨v2, rfl, hr, hb⟩
 obtain ⟨A2, c2, rfl⟩ := Kd.R_slice hr
 have S2 := Aside0.mk hr
 have P2 := Aside0.mk (rowPlain hr)
 replace HB := Aside0.mk (below_step oB hb)
 clear hr hb
 go_wp2_with fail
 refine (impl_JoinPath.calls k _ _ t s _ (kO S2) (ko S2) P2.out H4.out).mono ?_
 rintro e w5 ⟨rfl, hb⟩
 replace S2 := rb S2 hb
 replace HB := Aside0.mk (below_step oB hb)
 clear hb
 go_wp2_with fail
 refine (laws_toStringS.calls k _ _ l0 t _ (kC HR0) HC0.out H2.out).mono ?_
 rintro e w6 ⟨v3, rfl, hr, hb⟩
 obtain ⟨A3, c3, rfl⟩ := Kd.R_slice hr
 have S3 := Aside0.mk hr
 replace S2 := rb S2 hb
 replace HB := Aside0.mk (below_step oB hb)
 clear hr hb
 go_wp2_with fail
 refine (laws_eqStringS.calls k _ _ t _ _ t true _ (kO S2) (ko S2) (kO S3) (ko S3) H5.out).mono ?_
 rintro e w7 ⟨rfl, m3, rfl⟩
 replace HB := Aside0.mk (pw_below_drewN HB.out m3)
 go_wp2
 go_ret
 exact ⟨rfl, HB.out⟩
end Go.Proofs.Ytkknehgaebhbeaa.P
