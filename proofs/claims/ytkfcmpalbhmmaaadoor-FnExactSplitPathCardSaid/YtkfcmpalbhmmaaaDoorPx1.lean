-- By this session's own program (wip/myprint.py) out of the translation; Lean checks it.
import Derived.Test.YtkfcmpalbhmmaaaDoorPx0
namespace Go.Proofs.YtkfcmpalbhmmaaaDoor.P
open Go.RowKit Go.Proofs.YtkfcmpalbhmmaaaDoorW.PrintWords Go.Proofs.YtkfcmpalbhmmaaaDoorW.PrintLast Go.Proofs.YtkfcmpalbhmmaaaDoorW.PrintMore
attribute [local go_sem] max2_int min2_int max_two min_two max_three min_three max_four min_four   -- for this text's walks alone
set_option linter.unusedVariables false
set_option linter.unusedSimpArgs false

/-! ### impl_NameOk: function 31 -/
def impl_NameOk.l0 : Nat → ByteArray → Int → Int → Option (Bool)
 | 0, _, _, _ => none
 | k + 1, x0, x6, x7 => if x7 < x6 then (if 0 ≤ x7 then (if x7 < (x0.size : Int) then (if (bt x0 x7) < 97 then (if (bt x0 x7) < 48 then (if (bt x0 x7) = 95 then (impl_NameOk.l0 k x0 x6 (wrap64 (x7 + 1))) else (if (bt x0 x7) = 45 then (impl_NameOk.l0 k x0 x6 (wrap64 (x7 + 1))) else (if (bt x0 x7) = 46 then (impl_NameOk.l0 k x0 x6 (wrap64 (x7 + 1))) else (some false)))) else (if (bt x0 x7) > 57 then (if (bt x0 x7) = 95 then (impl_NameOk.l0 k x0 x6 (wrap64 (x7 + 1))) else (if (bt x0 x7) = 45 then (impl_NameOk.l0 k x0 x6 (wrap64 (x7 + 1))) else (if (bt x0 x7) = 46 then (impl_NameOk.l0 k x0 x6 (wrap64 (x7 + 1))) else (some false)))) else (impl_NameOk.l0 k x0 x6 (wrap64 (x7 + 1))))) else (if (bt x0 x7) > 122 then (if (bt x0 x7) < 48 then (if (bt x0 x7) = 95 then (impl_NameOk.l0 k x0 x6 (wrap64 (x7 + 1))) else (if (bt x0 x7) = 45 then (impl_NameOk.l0 k x0 x6 (wrap64 (x7 + 1))) else (if (bt x0 x7) = 46 then (impl_NameOk.l0 k x0 x6 (wrap64 (x7 + 1))) else (some false)))) else (if (bt x0 x7) > 57 then (if (bt x0 x7) = 95 then (impl_NameOk.l0 k x0 x6 (wrap64 (x7 + 1))) else (if (bt x0 x7) = 45 then (impl_NameOk.l0 k x0 x6 (wrap64 (x7 + 1))) else (if (bt x0 x7) = 46 then (impl_NameOk.l0 k x0 x6 (wrap64 (x7 + 1))) else (some false)))) else (impl_NameOk.l0 k x0 x6 (wrap64 (x7 + 1))))) else (impl_NameOk.l0 k x0 x6 (wrap64 (x7 + 1))))) else (none)) else (none)) else (if (x0.size : Int) ≥ 1 then (if (x0.size : Int) ≤ 14 then (if x0.toList = ([46] : List UInt8) then (some false) else (some (x0.toList != ([46, 46] : List UInt8)))) else (some false)) else (some false))
def impl_NameOk.f (k : Nat) (a0 : ByteArray) : Option (Bool) := impl_NameOk.l0 k a0 (a0.size : Int) 0
set_option maxHeartbeats 8000000 in
set_option maxRecDepth 100000 in
theorem impl_NameOk.calls (k : Nat) (a0 : ByteArray) (r : Bool) (w : World) (h : impl_NameOk.f k a0 = some r) :
  Calls Tryd.prog 31 #[.string a0] w fun e w' => e = .returned (.bool r) ∧ Drawn0 w w' := by
 unfold impl_NameOk.f at h
 have H := h
 clear h
 have H' := Aside0.mk H
 clear H
 go_enter Tryd.func31, Tryd.ntmps31
 go_wp2
 go_loopg [7] k (fun kq v7 w' => ∃ (x7_1 : Int), v7 = .int .i64 x7_1 ∧ Aside0 (impl_NameOk.l0 kq a0 (a0.size : Int) x7_1 = some r) ∧ Aside0 (kq ≤ k) ∧ Drawn0 w w')
 case atStart => exact ⟨(0), oS, H', ⟨Nat.le_refl _⟩, oD⟩
 case round =>
  clear H'
  obtain ⟨x7_1, rfl, HA, HK1, ⟨m1, rfl⟩⟩ := hrel
  cases gk with
  | zero => exact absurd HA.out (by simp [impl_NameOk.l0])
  | succ k1 =>
   have H := HA.out
   clear HA
   simp only [impl_NameOk.l0] at H
   replace H := itD H
   rcases H with ⟨c2b0, H⟩ | ⟨c2b0, H⟩
   ·replace H := itD H
    rcases H with ⟨c3b0, H⟩ | ⟨c3b0, H⟩
    ·replace H := itD H
     rcases H with ⟨c4b0, H⟩ | ⟨c4b0, H⟩
     ·replace H := itD H
      rcases H with ⟨c6b0, H⟩ | ⟨c6b0, H⟩
      ·replace H := itD H
       rcases H with ⟨c7b0, H⟩ | ⟨c7b0, H⟩
       ·by_cases c8 : (bt a0 x7_1) = 95
        ·rw [if_pos c8] at H
         have c8b0 : ((bt a0 x7_1) == 95) = true := beq_iff_eq.mpr c8
         have c8b1 : ((bt a0 x7_1) != 95) = false := bne_eq_false_iff_eq.mpr c8
         clear c8
         have H' := Aside0.mk H
         clear H
         have p5 : (0 ≤ (x7_1 : Int)) = True := oT
         have q5 : (x7_1 < (a0.size : Int)) = True := oT
         have hx5 := bt_at a0 x7_1
         go_wp2
         go_roundg k1
         case measure => have := HK1.out; omega
         case rel => exact ⟨(wrap64 (x7_1 + 1)), oS, H', ⟨by have := HK1.out; omega⟩, oD⟩
        ·rw [if_neg c8] at H
         have c8b0 : ((bt a0 x7_1) == 95) = false := beq_eq_false_iff_ne.mpr c8
         have c8b1 : ((bt a0 x7_1) != 95) = true := bne_iff_ne.mpr c8
         by_cases c9 : (bt a0 x7_1) = 45
         ·rw [if_pos c9] at H
          have c9b0 : ((bt a0 x7_1) == 45) = true := beq_iff_eq.mpr c9
          have c9b1 : ((bt a0 x7_1) != 45) = false := bne_eq_false_iff_eq.mpr c9
          clear c9
          have H' := Aside0.mk H
          clear H
          have p5 : (0 ≤ (x7_1 : Int)) = True := oT
          have q5 : (x7_1 < (a0.size : Int)) = True := oT
          have hx5 := bt_at a0 x7_1
          go_wp2
          go_roundg k1
          case measure => have := HK1.out; omega
          case rel => exact ⟨(wrap64 (x7_1 + 1)), oS, H', ⟨by have := HK1.out; omega⟩, oD⟩
         ·rw [if_neg c9] at H
          have c9b0 : ((bt a0 x7_1) == 45) = false := beq_eq_false_iff_ne.mpr c9
          have c9b1 : ((bt a0 x7_1) != 45) = true := bne_iff_ne.mpr c9
          by_cases c10 : (bt a0 x7_1) = 46
          ·rw [if_pos c10] at H
           have c10b0 : ((bt a0 x7_1) == 46) = true := beq_iff_eq.mpr c10
           have c10b1 : ((bt a0 x7_1) != 46) = false := bne_eq_false_iff_eq.mpr c10
           clear c10
           have H' := Aside0.mk H
           clear H
           have p5 : (0 ≤ (x7_1 : Int)) = True := oT
           have q5 : (x7_1 < (a0.size : Int)) = True := oT
           have hx5 := bt_at a0 x7_1
           go_wp2
           go_roundg k1
           case measure => have := HK1.out; omega
           case rel => exact ⟨(wrap64 (x7_1 + 1)), oS, H', ⟨by have := HK1.out; omega⟩, oD⟩
          ·rw [if_neg c10] at H
           have c10b0 : ((bt a0 x7_1) == 46) = false := beq_eq_false_iff_ne.mpr c10
           have c10b1 : ((bt a0 x7_1) != 46) = true := bne_iff_ne.mpr c10
           obtain rfl := Option.some.inj H
           have p5 : (0 ≤ (x7_1 : Int)) = True := oT
           have q5 : (x7_1 < (a0.size : Int)) = True := oT
           have hx5 := bt_at a0 x7_1
           go_wp2
           go_ret
           exact ⟨oS, oD⟩
       ·replace H := itG H
        rcases H with ⟨c11b0, H⟩ | ⟨c11b0, H⟩
        ·by_cases c12 : (bt a0 x7_1) = 95
         ·rw [if_pos c12] at H
          have c12b0 : ((bt a0 x7_1) == 95) = true := beq_iff_eq.mpr c12
          have c12b1 : ((bt a0 x7_1) != 95) = false := bne_eq_false_iff_eq.mpr c12
          clear c12
          have H' := Aside0.mk H
          clear H
          have p5 : (0 ≤ (x7_1 : Int)) = True := oT
          have q5 : (x7_1 < (a0.size : Int)) = True := oT
          have hx5 := bt_at a0 x7_1
          go_wp2
          go_roundg k1
          case measure => have := HK1.out; omega
          case rel => exact ⟨(wrap64 (x7_1 + 1)), oS, H', ⟨by have := HK1.out; omega⟩, oD⟩
         ·rw [if_neg c12] at H
          have c12b0 : ((bt a0 x7_1) == 95) = false := beq_eq_false_iff_ne.mpr c12
          have c12b1 : ((bt a0 x7_1) != 95) = true := bne_iff_ne.mpr c12
          by_cases c13 : (bt a0 x7_1) = 45
          ·rw [if_pos c13] at H
           have c13b0 : ((bt a0 x7_1) == 45) = true := beq_iff_eq.mpr c13
           have c13b1 : ((bt a0 x7_1) != 45) = false := bne_eq_false_iff_eq.mpr c13
           clear c13
           have H' := Aside0.mk H
           clear H
           have p5 : (0 ≤ (x7_1 : Int)) = True := oT
           have q5 : (x7_1 < (a0.size : Int)) = True := oT
           have hx5 := bt_at a0 x7_1
           go_wp2
           go_roundg k1
           case measure => have := HK1.out; omega
           case rel => exact ⟨(wrap64 (x7_1 + 1)), oS, H', ⟨by have := HK1.out; omega⟩, oD⟩
          ·rw [if_neg c13] at H
           have c13b0 : ((bt a0 x7_1) == 45) = false := beq_eq_false_iff_ne.mpr c13
           have c13b1 : ((bt a0 x7_1) != 45) = true := bne_iff_ne.mpr c13
           by_cases c14 : (bt a0 x7_1) = 46
           ·rw [if_pos c14] at H
            have c14b0 : ((bt a0 x7_1) == 46) = true := beq_iff_eq.mpr c14
            have c14b1 : ((bt a0 x7_1) != 46) = false := bne_eq_false_iff_eq.mpr c14
            clear c14
            have H' := Aside0.mk H
            clear H
            have p5 : (0 ≤ (x7_1 : Int)) = True := oT
            have q5 : (x7_1 < (a0.size : Int)) = True := oT
            have hx5 := bt_at a0 x7_1
            go_wp2
            go_roundg k1
            case measure => have := HK1.out; omega
            case rel => exact ⟨(wrap64 (x7_1 + 1)), oS, H', ⟨by have := HK1.out; omega⟩, oD⟩
           ·rw [if_neg c14] at H
            have c14b0 : ((bt a0 x7_1) == 46) = false := beq_eq_false_iff_ne.mpr c14
            have c14b1 : ((bt a0 x7_1) != 46) = true := bne_iff_ne.mpr c14
            obtain rfl := Option.some.inj H
            have p5 : (0 ≤ (x7_1 : Int)) = True := oT
            have q5 : (x7_1 < (a0.size : Int)) = True := oT
            have hx5 := bt_at a0 x7_1
            go_wp2
            go_ret
            exact ⟨oS, oD⟩
        ·have H' := Aside0.mk H
         clear H
         have p5 : (0 ≤ (x7_1 : Int)) = True := oT
         have q5 : (x7_1 < (a0.size : Int)) = True := oT
         have hx5 := bt_at a0 x7_1
         go_wp2
         go_roundg k1
         case measure => have := HK1.out; omega
         case rel => exact ⟨(wrap64 (x7_1 + 1)), oS, H', ⟨by have := HK1.out; omega⟩, oD⟩
      ·replace H := itG H
       rcases H with ⟨c15b0, H⟩ | ⟨c15b0, H⟩
       ·replace H := itD H
        rcases H with ⟨c16b0, H⟩ | ⟨c16b0, H⟩
        ·by_cases c17 : (bt a0 x7_1) = 95
         ·rw [if_pos c17] at H
          have c17b0 : ((bt a0 x7_1) == 95) = true := beq_iff_eq.mpr c17
          have c17b1 : ((bt a0 x7_1) != 95) = false := bne_eq_false_iff_eq.mpr c17
          clear c17
          have H' := Aside0.mk H
          clear H
          have p5 : (0 ≤ (x7_1 : Int)) = True := oT
          have q5 : (x7_1 < (a0.size : Int)) = True := oT
          have hx5 := bt_at a0 x7_1
          go_wp2
          go_roundg k1
          case measure => have := HK1.out; omega
          case rel => exact ⟨(wrap64 (x7_1 + 1)), oS, H', ⟨by have := HK1.out; omega⟩, oD⟩
         ·rw [if_neg c17] at H
          have c17b0 : ((bt a0 x7_1) == 95) = false := beq_eq_false_iff_ne.mpr c17
          have c17b1 : ((bt a0 x7_1) != 95) = true := bne_iff_ne.mpr c17
          by_cases c18 : (bt a0 x7_1) = 45
          ·rw [if_pos c18] at H
           have c18b0 : ((bt a0 x7_1) == 45) = true := beq_iff_eq.mpr c18
           have c18b1 : ((bt a0 x7_1) != 45) = false := bne_eq_false_iff_eq.mpr c18
           clear c18
           have H' := Aside0.mk H
           clear H
           have p5 : (0 ≤ (x7_1 : Int)) = True := oT
           have q5 : (x7_1 < (a0.size : Int)) = True := oT
           have hx5 := bt_at a0 x7_1
           go_wp2
           go_roundg k1
           case measure => have := HK1.out; omega
           case rel => exact ⟨(wrap64 (x7_1 + 1)), oS, H', ⟨by have := HK1.out; omega⟩, oD⟩
          ·rw [if_neg c18] at H
           have c18b0 : ((bt a0 x7_1) == 45) = false := beq_eq_false_iff_ne.mpr c18
           have c18b1 : ((bt a0 x7_1) != 45) = true := bne_iff_ne.mpr c18
           by_cases c19 : (bt a0 x7_1) = 46
           ·rw [if_pos c19] at H
            have c19b0 : ((bt a0 x7_1) == 46) = true := beq_iff_eq.mpr c19
            have c19b1 : ((bt a0 x7_1) != 46) = false := bne_eq_false_iff_eq.mpr c19
            clear c19
            have H' := Aside0.mk H
            clear H
            have p5 : (0 ≤ (x7_1 : Int)) = True := oT
            have q5 : (x7_1 < (a0.size : Int)) = True := oT
            have hx5 := bt_at a0 x7_1
            go_wp2
            go_roundg k1
            case measure => have := HK1.out; omega
            case rel => exact ⟨(wrap64 (x7_1 + 1)), oS, H', ⟨by have := HK1.out; omega⟩, oD⟩
           ·rw [if_neg c19] at H
            have c19b0 : ((bt a0 x7_1) == 46) = false := beq_eq_false_iff_ne.mpr c19
            have c19b1 : ((bt a0 x7_1) != 46) = true := bne_iff_ne.mpr c19
            obtain rfl := Option.some.inj H
            have p5 : (0 ≤ (x7_1 : Int)) = True := oT
            have q5 : (x7_1 < (a0.size : Int)) = True := oT
            have hx5 := bt_at a0 x7_1
            go_wp2
            go_ret
            exact ⟨oS, oD⟩
        ·replace H := itG H
         rcases H with ⟨c20b0, H⟩ | ⟨c20b0, H⟩
         ·by_cases c21 : (bt a0 x7_1) = 95
          ·rw [if_pos c21] at H
           have c21b0 : ((bt a0 x7_1) == 95) = true := beq_iff_eq.mpr c21
           have c21b1 : ((bt a0 x7_1) != 95) = false := bne_eq_false_iff_eq.mpr c21
           clear c21
           have H' := Aside0.mk H
           clear H
           have p5 : (0 ≤ (x7_1 : Int)) = True := oT
           have q5 : (x7_1 < (a0.size : Int)) = True := oT
           have hx5 := bt_at a0 x7_1
           go_wp2
           go_roundg k1
           case measure => have := HK1.out; omega
           case rel => exact ⟨(wrap64 (x7_1 + 1)), oS, H', ⟨by have := HK1.out; omega⟩, oD⟩
          ·rw [if_neg c21] at H
           have c21b0 : ((bt a0 x7_1) == 95) = false := beq_eq_false_iff_ne.mpr c21
           have c21b1 : ((bt a0 x7_1) != 95) = true := bne_iff_ne.mpr c21
           by_cases c22 : (bt a0 x7_1) = 45
           ·rw [if_pos c22] at H
            have c22b0 : ((bt a0 x7_1) == 45) = true := beq_iff_eq.mpr c22
            have c22b1 : ((bt a0 x7_1) != 45) = false := bne_eq_false_iff_eq.mpr c22
            clear c22
            have H' := Aside0.mk H
            clear H
            have p5 : (0 ≤ (x7_1 : Int)) = True := oT
            have q5 : (x7_1 < (a0.size : Int)) = True := oT
            have hx5 := bt_at a0 x7_1
            go_wp2
            go_roundg k1
            case measure => have := HK1.out; omega
            case rel => exact ⟨(wrap64 (x7_1 + 1)), oS, H', ⟨by have := HK1.out; omega⟩, oD⟩
           ·rw [if_neg c22] at H
            have c22b0 : ((bt a0 x7_1) == 45) = false := beq_eq_false_iff_ne.mpr c22
            have c22b1 : ((bt a0 x7_1) != 45) = true := bne_iff_ne.mpr c22
            by_cases c23 : (bt a0 x7_1) = 46
            ·rw [if_pos c23] at H
             have c23b0 : ((bt a0 x7_1) == 46) = true := beq_iff_eq.mpr c23
             have c23b1 : ((bt a0 x7_1) != 46) = false := bne_eq_false_iff_eq.mpr c23
             clear c23
             have H' := Aside0.mk H
             clear H
             have p5 : (0 ≤ (x7_1 : Int)) = True := oT
             have q5 : (x7_1 < (a0.size : Int)) = True := oT
             have hx5 := bt_at a0 x7_1
             go_wp2
             go_roundg k1
             case measure => have := HK1.out; omega
             case rel => exact ⟨(wrap64 (x7_1 + 1)), oS, H', ⟨by have := HK1.out; omega⟩, oD⟩
            ·rw [if_neg c23] at H
             have c23b0 : ((bt a0 x7_1) == 46) = false := beq_eq_false_iff_ne.mpr c23
             have c23b1 : ((bt a0 x7_1) != 46) = true := bne_iff_ne.mpr c23
             obtain rfl := Option.some.inj H
             have p5 : (0 ≤ (x7_1 : Int)) = True := oT
             have q5 : (x7_1 < (a0.size : Int)) = True := oT
             have hx5 := bt_at a0 x7_1
             go_wp2
             go_ret
             exact ⟨oS, oD⟩
         ·have H' := Aside0.mk H
          clear H
          have p5 : (0 ≤ (x7_1 : Int)) = True := oT
          have q5 : (x7_1 < (a0.size : Int)) = True := oT
          have hx5 := bt_at a0 x7_1
          go_wp2
          go_roundg k1
          case measure => have := HK1.out; omega
          case rel => exact ⟨(wrap64 (x7_1 + 1)), oS, H', ⟨by have := HK1.out; omega⟩, oD⟩
       ·have H' := Aside0.mk H
        clear H
        have p5 : (0 ≤ (x7_1 : Int)) = True := oT
        have q5 : (x7_1 < (a0.size : Int)) = True := oT
        have hx5 := bt_at a0 x7_1
        go_wp2
        go_roundg k1
        case measure => have := HK1.out; omega
        case rel => exact ⟨(wrap64 (x7_1 + 1)), oS, H', ⟨by have := HK1.out; omega⟩, oD⟩
     ·cases H
    ·cases H
   ·by_cases c24 : (a0.size : Int) ≥ 1
    ·rw [if_pos c24] at H
     have c24b0 : decide (1 ≤ (a0.size : Int)) = true := decide_eq_true c24
     have c24b1 : decide (1 ≤ a0.size) = true := decide_eq_true (by omega)
     clear c24
     by_cases c25 : (a0.size : Int) ≤ 14
     ·rw [if_pos c25] at H
      have c25b0 : decide ((a0.size : Int) ≤ 14) = true := decide_eq_true c25
      have c25b1 : decide (a0.size ≤ 14) = true := decide_eq_true (by omega)
      clear c25
      by_cases c26 : a0.toList = ([46] : List UInt8)
      ·rw [if_pos c26] at H
       have c26b0 : (a0.toList == ([46] : List UInt8)) = true := beq_iff_eq.mpr c26
       have c26b1 : (a0.toList != ([46] : List UInt8)) = false := bne_eq_false_iff_eq.mpr c26
       clear c26
       obtain rfl := Option.some.inj H
       go_wp2
       go_ret
       exact ⟨oS, oD⟩
      ·rw [if_neg c26] at H
       have c26b0 : (a0.toList == ([46] : List UInt8)) = false := beq_eq_false_iff_ne.mpr c26
       have c26b1 : (a0.toList != ([46] : List UInt8)) = true := bne_iff_ne.mpr c26
       obtain rfl := Option.some.inj H
       go_wp2
       go_ret
       exact ⟨oS, oD⟩
     ·rw [if_neg c25] at H
      have c25b0 : decide ((a0.size : Int) ≤ 14) = false := decide_eq_false c25
      have c25b1 : decide (a0.size ≤ 14) = false := decide_eq_false (by omega)
      clear c25
      obtain rfl := Option.some.inj H
      go_wp2
      go_ret
      exact ⟨oS, oD⟩
    ·rw [if_neg c24] at H
     have c24b0 : decide (1 ≤ (a0.size : Int)) = false := decide_eq_false c24
     have c24b1 : decide (1 ≤ a0.size) = false := decide_eq_false (by omega)
     clear c24
     obtain rfl := Option.some.inj H
     go_wp2
     go_ret
     exact ⟨oS, oD⟩

/-! ### spec_l1In: function 79 -/
def spec_l1In.f (a0 : Int) (a1 : Int) (a2 : Int) : Option (Bool) := if a0 ≥ a1 then (some (decide (a0 ≤ a2))) else (some false)
set_option maxHeartbeats 8000000 in
set_option maxRecDepth 100000 in
theorem spec_l1In.calls (a0 : Int) (a1 : Int) (a2 : Int) (r : Bool) (w : World) (h : spec_l1In.f a0 a1 a2 = some r) :
  Calls Tryd.prog 79 #[.int .i64 a0, .int .i64 a1, .int .i64 a2] w fun e w' => e = .returned (.bool r) ∧ Drawn0 w w' := by
 unfold spec_l1In.f at h
 have H := h
 clear h
 replace H := itH H
 rcases H with ⟨c4b0, H⟩ | ⟨c4b0, H⟩
 ·obtain rfl := Option.some.inj H
  go_enter Tryd.func79, Tryd.ntmps79
  go_wp2
  go_ret
  exact ⟨oS, oD⟩
 ·obtain rfl := Option.some.inj H
  go_enter Tryd.func79, Tryd.ntmps79
  go_wp2
  go_ret
  exact ⟨oS, oD⟩

/-! ### spec_NameOk: function 53 -/
def spec_NameOk.l0 : Nat → ByteArray → Int → Option (Bool)
 | 0, _, _ => none
 | k + 1, x0, x3 => if x3 < (x0.size : Int) then (if 0 ≤ x3 then ((spec_l1In.f (wrap64 (bt x0 x3)) 97 122).bind fun t102 => (if t102 = true then (spec_NameOk.l0 k x0 (wrap64 (x3 + 1))) else ((spec_l1In.f (wrap64 (bt x0 x3)) 48 57).bind fun t103 => (if t103 = true then (spec_NameOk.l0 k x0 (wrap64 (x3 + 1))) else (if (wrap64 (bt x0 x3)) = 95 then (spec_NameOk.l0 k x0 (wrap64 (x3 + 1))) else (if (wrap64 (bt x0 x3)) = 45 then (spec_NameOk.l0 k x0 (wrap64 (x3 + 1))) else (if (wrap64 (bt x0 x3)) = 46 then (spec_NameOk.l0 k x0 (wrap64 (x3 + 1))) else (some false)))))))) else (none)) else ((spec_l1In.f (x0.size : Int) 1 14).bind fun t101 => (if t101 = true then (if x0.toList = ([46] : List UInt8) then (some false) else (some (x0.toList != ([46, 46] : List UInt8)))) else (some false)))
def spec_NameOk.f (k : Nat) (a0 : ByteArray) : Option (Bool) := spec_NameOk.l0 k a0 0
set_option maxHeartbeats 8000000 in
set_option maxRecDepth 100000 in
theorem spec_NameOk.calls (k : Nat) (a0 : ByteArray) (r : Bool) (w : World) (h : spec_NameOk.f k a0 = some r) :
  Calls Tryd.prog 53 #[.string a0] w fun e w' => e = .returned (.bool r) ∧ Drawn0 w w' := by
 unfold spec_NameOk.f at h
 have H := h
 clear h
 have H' := Aside0.mk H
 clear H
 go_enter Tryd.func53, Tryd.ntmps53
 go_wp2
 go_loopg [3] k (fun kq v3 w' => ∃ (x3_1 : Int), v3 = .int .i64 x3_1 ∧ Aside0 (spec_NameOk.l0 kq a0 x3_1 = some r) ∧ Aside0 (kq ≤ k) ∧ Drawn0 w w')
 case atStart => exact ⟨(0), oS, H', ⟨Nat.le_refl _⟩, oD⟩
 case round =>
  clear H'
  obtain ⟨x3_1, rfl, HA, HK1, ⟨m1, rfl⟩⟩ := hrel
  cases gk with
  | zero => exact absurd HA.out (by simp [spec_NameOk.l0])
  | succ k1 =>
   have H := HA.out
   clear HA
   simp only [spec_NameOk.l0] at H
   replace H := itD H
   rcases H with ⟨c2b0, H⟩ | ⟨c2b0, H⟩
   ·replace H := itD H
    rcases H with ⟨c3b0, H⟩ | ⟨c3b0, H⟩
    ·replace H := bA H
     obtain ⟨t102, A5, H⟩ := H
     try dsimp only at H
     replace H := itB H
     rcases H with ⟨rfl, H⟩ | ⟨rfl, H⟩
     ·have H' := Aside0.mk H
      clear H
      have p4 : (0 ≤ (x3_1 : Int)) = True := oT
      have q4 : (x3_1 < (a0.size : Int)) = True := oT
      have hx4 := bt_at a0 x3_1
      go_wp2_with (first | ((with_reducible refine gate_callee (f := 79) rfl ?_); refine gl_ 16 Tryd.func79 (spec_l1In.calls (wrap64 (bt a0 x3_1)) 97 122 true _ A5.out) ?_; rintro e w' ⟨rfl, ⟨nd, rfl⟩⟩; refine ⟨_, rfl, ?_⟩))
      go_roundg k1
      case measure => have := HK1.out; omega
      case rel => exact ⟨(wrap64 (x3_1 + 1)), oS, H', ⟨by have := HK1.out; omega⟩, oD⟩
     ·replace H := bA H
      obtain ⟨t103, A7, H⟩ := H
      try dsimp only at H
      replace H := itB H
      rcases H with ⟨rfl, H⟩ | ⟨rfl, H⟩
      ·have H' := Aside0.mk H
       clear H
       have p4 : (0 ≤ (x3_1 : Int)) = True := oT
       have q4 : (x3_1 < (a0.size : Int)) = True := oT
       have hx4 := bt_at a0 x3_1
       go_wp2_with (first | ((with_reducible refine gate_callee (f := 79) rfl ?_); refine gl_ 16 Tryd.func79 (spec_l1In.calls (wrap64 (bt a0 x3_1)) 97 122 false _ A5.out) ?_; rintro e w' ⟨rfl, ⟨nd, rfl⟩⟩; refine ⟨_, rfl, ?_⟩) | (go_at_call 79; (with_reducible refine (spec_l1In.calls (wrap64 (bt a0 x3_1)) 48 57 true _ A7.out).mono ?_); rintro e w' ⟨rfl, ⟨nd, rfl⟩⟩))
       go_roundg k1
       case measure => have := HK1.out; omega
       case rel => exact ⟨(wrap64 (x3_1 + 1)), oS, H', ⟨by have := HK1.out; omega⟩, oD⟩
      ·by_cases c9 : (wrap64 (bt a0 x3_1)) = 95
       ·rw [if_pos c9] at H
        have c9b0 : ((wrap64 (bt a0 x3_1)) == 95) = true := beq_iff_eq.mpr c9
        have c9b1 : ((wrap64 (bt a0 x3_1)) != 95) = false := bne_eq_false_iff_eq.mpr c9
        clear c9
        have H' := Aside0.mk H
        clear H
        have p4 : (0 ≤ (x3_1 : Int)) = True := oT
        have q4 : (x3_1 < (a0.size : Int)) = True := oT
        have hx4 := bt_at a0 x3_1
        go_wp2_with (first | ((with_reducible refine gate_callee (f := 79) rfl ?_); refine gl_ 16 Tryd.func79 (spec_l1In.calls (wrap64 (bt a0 x3_1)) 97 122 false _ A5.out) ?_; rintro e w' ⟨rfl, ⟨nd, rfl⟩⟩; refine ⟨_, rfl, ?_⟩) | (go_at_call 79; (with_reducible refine (spec_l1In.calls (wrap64 (bt a0 x3_1)) 48 57 false _ A7.out).mono ?_); rintro e w' ⟨rfl, ⟨nd, rfl⟩⟩))
        go_roundg k1
        case measure => have := HK1.out; omega
        case rel => exact ⟨(wrap64 (x3_1 + 1)), oS, H', ⟨by have := HK1.out; omega⟩, oD⟩
       ·rw [if_neg c9] at H
        have c9b0 : ((wrap64 (bt a0 x3_1)) == 95) = false := beq_eq_false_iff_ne.mpr c9
        have c9b1 : ((wrap64 (bt a0 x3_1)) != 95) = true := bne_iff_ne.mpr c9
        by_cases c10 : (wrap64 (bt a0 x3_1)) = 45
        ·rw [if_pos c10] at H
         have c10b0 : ((wrap64 (bt a0 x3_1)) == 45) = true := beq_iff_eq.mpr c10
         have c10b1 : ((wrap64 (bt a0 x3_1)) != 45) = false := bne_eq_false_iff_eq.mpr c10
         clear c10
         have H' := Aside0.mk H
         clear H
         have p4 : (0 ≤ (x3_1 : Int)) = True := oT
         have q4 : (x3_1 < (a0.size : Int)) = True := oT
         have hx4 := bt_at a0 x3_1
         go_wp2_with (first | ((with_reducible refine gate_callee (f := 79) rfl ?_); refine gl_ 16 Tryd.func79 (spec_l1In.calls (wrap64 (bt a0 x3_1)) 97 122 false _ A5.out) ?_; rintro e w' ⟨rfl, ⟨nd, rfl⟩⟩; refine ⟨_, rfl, ?_⟩) | (go_at_call 79; (with_reducible refine (spec_l1In.calls (wrap64 (bt a0 x3_1)) 48 57 false _ A7.out).mono ?_); rintro e w' ⟨rfl, ⟨nd, rfl⟩⟩))
         go_roundg k1
         case measure => have := HK1.out; omega
         case rel => exact ⟨(wrap64 (x3_1 + 1)), oS, H', ⟨by have := HK1.out; omega⟩, oD⟩
        ·rw [if_neg c10] at H
         have c10b0 : ((wrap64 (bt a0 x3_1)) == 45) = false := beq_eq_false_iff_ne.mpr c10
         have c10b1 : ((wrap64 (bt a0 x3_1)) != 45) = true := bne_iff_ne.mpr c10
         by_cases c11 : (wrap64 (bt a0 x3_1)) = 46
         ·rw [if_pos c11] at H
          have c11b0 : ((wrap64 (bt a0 x3_1)) == 46) = true := beq_iff_eq.mpr c11
          have c11b1 : ((wrap64 (bt a0 x3_1)) != 46) = false := bne_eq_false_iff_eq.mpr c11
          clear c11
          have H' := Aside0.mk H
          clear H
          have p4 : (0 ≤ (x3_1 : Int)) = True := oT
          have q4 : (x3_1 < (a0.size : Int)) = True := oT
          have hx4 := bt_at a0 x3_1
          go_wp2_with (first | ((with_reducible refine gate_callee (f := 79) rfl ?_); refine gl_ 16 Tryd.func79 (spec_l1In.calls (wrap64 (bt a0 x3_1)) 97 122 false _ A5.out) ?_; rintro e w' ⟨rfl, ⟨nd, rfl⟩⟩; refine ⟨_, rfl, ?_⟩) | (go_at_call 79; (with_reducible refine (spec_l1In.calls (wrap64 (bt a0 x3_1)) 48 57 false _ A7.out).mono ?_); rintro e w' ⟨rfl, ⟨nd, rfl⟩⟩))
          go_roundg k1
          case measure => have := HK1.out; omega
          case rel => exact ⟨(wrap64 (x3_1 + 1)), oS, H', ⟨by have := HK1.out; omega⟩, oD⟩
         ·rw [if_neg c11] at H
          have c11b0 : ((wrap64 (bt a0 x3_1)) == 46) = false := beq_eq_false_iff_ne.mpr c11
          have c11b1 : ((wrap64 (bt a0 x3_1)) != 46) = true := bne_iff_ne.mpr c11
          obtain rfl := Option.some.inj H
          have p4 : (0 ≤ (x3_1 : Int)) = True := oT
          have q4 : (x3_1 < (a0.size : Int)) = True := oT
          have hx4 := bt_at a0 x3_1
          go_wp2_with (first | ((with_reducible refine gate_callee (f := 79) rfl ?_); refine gl_ 16 Tryd.func79 (spec_l1In.calls (wrap64 (bt a0 x3_1)) 97 122 false _ A5.out) ?_; rintro e w' ⟨rfl, ⟨nd, rfl⟩⟩; refine ⟨_, rfl, ?_⟩) | (go_at_call 79; (with_reducible refine (spec_l1In.calls (wrap64 (bt a0 x3_1)) 48 57 false _ A7.out).mono ?_); rintro e w' ⟨rfl, ⟨nd, rfl⟩⟩))
          go_ret
          exact ⟨oS, oD⟩
    ·cases H
   ·replace H := bA H
    obtain ⟨t101, A12, H⟩ := H
    try dsimp only at H
    replace H := itB H
    rcases H with ⟨rfl, H⟩ | ⟨rfl, H⟩
    ·by_cases c14 : a0.toList = ([46] : List UInt8)
     ·rw [if_pos c14] at H
      have c14b0 : (a0.toList == ([46] : List UInt8)) = true := beq_iff_eq.mpr c14
      have c14b1 : (a0.toList != ([46] : List UInt8)) = false := bne_eq_false_iff_eq.mpr c14
      clear c14
      obtain rfl := Option.some.inj H
      go_wp2_with (first | ((with_reducible refine gate_callee (f := 79) rfl ?_); refine gl_ 37 Tryd.func79 (spec_l1In.calls (a0.size : Int) 1 14 true _ A12.out) ?_; rintro e w' ⟨rfl, ⟨nd, rfl⟩⟩; refine ⟨_, rfl, ?_⟩))
      go_ret
      exact ⟨oS, oD⟩
     ·rw [if_neg c14] at H
      have c14b0 : (a0.toList == ([46] : List UInt8)) = false := beq_eq_false_iff_ne.mpr c14
      have c14b1 : (a0.toList != ([46] : List UInt8)) = true := bne_iff_ne.mpr c14
      obtain rfl := Option.some.inj H
      go_wp2_with (first | ((with_reducible refine gate_callee (f := 79) rfl ?_); refine gl_ 37 Tryd.func79 (spec_l1In.calls (a0.size : Int) 1 14 true _ A12.out) ?_; rintro e w' ⟨rfl, ⟨nd, rfl⟩⟩; refine ⟨_, rfl, ?_⟩))
      go_ret
      exact ⟨oS, oD⟩
    ·obtain rfl := Option.some.inj H
     go_wp2_with (first | ((with_reducible refine gate_callee (f := 79) rfl ?_); refine gl_ 37 Tryd.func79 (spec_l1In.calls (a0.size : Int) 1 14 false _ A12.out) ?_; rintro e w' ⟨rfl, ⟨nd, rfl⟩⟩; refine ⟨_, rfl, ?_⟩))
     go_ret
     exact ⟨oS, oD⟩

/-! ### spec_SplitPath: function 16 -/
mutual
def spec_SplitPath.l0 : Nat → ByteArray → List ByteArray → Int → Int → Option (List ByteArray × Bool)
 | 0, _, _, _, _ => none
 | k + 1, x0, x4, x5, x6 => if x6 ≤ (x0.size : Int) then (if x6 < (x0.size : Int) then (if 0 ≤ x6 then (spec_SplitPath.j1 k x0 x4 x5 x6 ((bt x0 x6) != 47)) else (none)) else (spec_SplitPath.j1 k x0 x4 x5 x6 false)) else (if (x0.size : Int) = 0 then (some ((([] : List ByteArray)), false)) else (if 0 < (x0.size : Int) then (if (bt x0 0) = 47 then (some (x4, true)) else (some ((([] : List ByteArray)), false))) else (none)))
def spec_SplitPath.j1 : Nat → ByteArray → List ByteArray → Int → Int → Bool → Option (List ByteArray × Bool)
 | 0, _, _, _, _, _ => none
 | k + 1, x0, x4, x5, x6, x27 => if x27 = true then (spec_SplitPath.l0 k x0 x4 x5 (wrap64 (x6 + 1))) else (if x6 > 0 then (if 0 ≤ x5 then (if x5 ≤ x6 then (if x6 ≤ (x0.size : Int) then ((spec_NameOk.f k (x0.extract (x5 : Int).toNat (x6 : Int).toNat)).bind fun t113 => (if t113 = true then (if (x4.length : Int) = 30 then (some ((([] : List ByteArray)), false)) else (if x4.length < 8796093022208 then (spec_SplitPath.l0 k x0 (x4 ++ [x0.extract (x5 : Int).toNat (x6 : Int).toNat]) (wrap64 (x6 + 1)) (wrap64 (x6 + 1))) else (none))) else (some ((([] : List ByteArray)), false)))) else (none)) else (none)) else (none)) else (spec_SplitPath.l0 k x0 x4 (wrap64 (x6 + 1)) (wrap64 (x6 + 1))))
end
def spec_SplitPath.f (k : Nat) (a0 : ByteArray) : Option (List ByteArray × Bool) := (some (([] : List ByteArray) : List ByteArray)).bind fun y104 => (if a0.toList = ([47] : List UInt8) then (some (y104, true)) else (spec_SplitPath.l0 k a0 y104 0 0))
set_option maxHeartbeats 8000000 in
set_option maxRecDepth 100000 in
theorem spec_SplitPath.calls (k : Nat) (a0 : ByteArray) (r1 : List ByteArray) (r2 : Bool) (w : World) (h : spec_SplitPath.f k a0 = some (r1, r2)) :
  Calls Tryd.prog 16 #[.string a0] w fun e w' => ∃ v0_ : Value, e = .returned (.tuple #[v0_, .bool r2]) ∧ Kd.R Kd.string 9 w' w.heap.size (fun _ => True) v0_ r1 ∧ Below w.heap.size w w' := by
 have HB := Aside0.mk (Below.refl w.heap.size w)
 unfold spec_SplitPath.f at h
 have H := h
 clear h
 obtain ⟨y104, hy104⟩ : ∃ y_ : List ByteArray, y_ = (([] : List ByteArray)) := ⟨_, rfl⟩
 replace H : (if a0.toList = ([47] : List UInt8) then (some (y104, true)) else (spec_SplitPath.l0 k a0 y104 0 0)) = some (r1, r2) := by first | (rw [hy104]; with_reducible exact H) | (have H2_ := (Option.bind_some _ _).symm.trans H; rw [hy104]; with_reducible exact H2_) | (have H2_ := (Option.bind_some _ _).symm.trans H; with_reducible exact H2_) | with_reducible exact H | (rw [hy104]; exact H) | exact H
 have Ny104 := Aside0.mk hy104
 clear hy104
 by_cases c2 : a0.toList = ([47] : List UInt8)
 ·rw [if_pos c2] at H
  have c2b0 : (a0.toList == ([47] : List UInt8)) = true := beq_iff_eq.mpr c2
  have c2b1 : (a0.toList != ([47] : List UInt8)) = false := bne_eq_false_iff_eq.mpr c2
  clear c2
  simp only [Option.some.injEq, Prod.mk.injEq] at H
  obtain ⟨rfl, rfl⟩ := H
  go_enter Tryd.func16, Tryd.ntmps16
  go_wp2_with (first | ((with_reducible refine gate_dst (N := 8) rfl ?_); (try (refine gate_guard (by rfl) ?_; dsimp only)); refine Kd.R_lit Kd.string _ 9 ?hg (N := 8) ?hd (xs := ([] : List ByteArray)) (inner := []) (ok := fun _ => True) (okp := fun _ => True) ?hr ?hp (fun _ hk => hk) trivial (Below.refl _ _) (Nat.le_refl _) (by simp) ?_; (case hd => rfl); (case hg => rfl); (case hr => first | (go_simp; done) | (go_simp; rfl)); (case hp => exact (Reps.none _ _)); intro v105 w3 ho4 hb hg_ hnew_; clear hg_ hnew_; (first | rw [← Ny104.out] at ho4 | (simp only [Int.reduceToNat] at ho4; rw [← Ny104.out] at ho4)); have HO106 := Aside0.mk (Kd.R_lower ho4 (below_size oB)); replace HB := Aside0.mk (below_step oB hb); clear hb ho4))
  go_ret2
  exact ⟨_, oE, oR HO106, oB⟩
 ·rw [if_neg c2] at H
  have c2b0 : (a0.toList == ([47] : List UInt8)) = false := beq_eq_false_iff_ne.mpr c2
  have c2b1 : (a0.toList != ([47] : List UInt8)) = true := bne_iff_ne.mpr c2
  have H' := Aside0.mk H
  clear H
  go_enter Tryd.func16, Tryd.ntmps16
  go_wp2_with (first | ((with_reducible refine gate_dst (N := 8) rfl ?_); (try (refine gate_guard (by rfl) ?_; dsimp only)); refine Kd.R_lit Kd.string _ 9 ?hg (N := 8) ?hd (xs := ([] : List ByteArray)) (inner := []) (ok := fun _ => True) (okp := fun _ => True) ?hr ?hp (fun _ hk => hk) trivial (Below.refl _ _) (Nat.le_refl _) (by simp) ?_; (case hd => rfl); (case hg => rfl); (case hr => first | (go_simp; done) | (go_simp; rfl)); (case hp => exact (Reps.none _ _)); intro v105 w5 ho6 hb hg_ hnew_; clear hg_ hnew_; (first | rw [← Ny104.out] at ho6 | (simp only [Int.reduceToNat] at ho6; rw [← Ny104.out] at ho6)); have HO106 := Aside0.mk (Kd.R_lower ho6 (below_size oB)); replace HB := Aside0.mk (below_step oB hb); clear hb ho6))
  go_loopg [4, 5, 6] k (fun kq v4 v5 v6 w' => ∃ (x4_1 : List ByteArray) (x5_1 : Int) (x6_1 : Int), v5 = .int .i64 x5_1 ∧ v6 = .int .i64 x6_1 ∧ Aside0 (spec_SplitPath.l0 kq a0 x4_1 x5_1 x6_1 = some (r1, r2)) ∧ Aside0 (kq ≤ k) ∧ Aside0 (Kd.R Kd.string 9 w' w.heap.size (fun _ => True) v4 x4_1) ∧ Aside0 (Below w.heap.size w w'))
  case atStart => exact ⟨(y104), (0), (0), oS, oS, H', ⟨Nat.le_refl _⟩, ⟨oR HO106⟩, ⟨oB⟩⟩
  case round =>
   clear H'
   try clear c2
   obtain ⟨x4_1, x5_1, x6_1, rfl, rfl, HA, HK1, HO_4, HB⟩ := hrel
   cases gk with
   | zero => exact absurd HA.out (by simp [spec_SplitPath.l0])
   | succ k1 =>
    have H := HA.out
    clear HA
    simp only [spec_SplitPath.l0] at H
    replace H := itD H
    rcases H with ⟨c7b0, H⟩ | ⟨c7b0, H⟩
    ·have HC8 := Aside0.mk H
     clear H
     go_upto_region 8 with (fail)
     go_cut [27] (fun v27 wc => ∃ (kq : Nat) (x27_7 : Bool), v27 = .bool x27_7 ∧ Aside0 (spec_SplitPath.j1 kq a0 x4_1 x5_1 x6_1 x27_7 = some (r1, r2)) ∧ Aside0 (kq ≤ k1) ∧ Aside0 (Kd.R Kd.string 9 wc w.heap.size (fun _ => True) u4 x4_1) ∧ Aside0 (Below w.heap.size w wc))
     case first =>
      have H := HC8.out
      clear HC8
      replace H := itD H
      rcases H with ⟨c9b0, H⟩ | ⟨c9b0, H⟩
      ·(first | rw [c9b0] | rw [c9b2] | (simp only [i64_w, i32_w]; rw [c9b0]) | skip)
       replace H := itD H
       rcases H with ⟨c10b0, H⟩ | ⟨c10b0, H⟩
       ·have H' := Aside0.mk H
        clear H
        have p11 : (0 ≤ (x6_1 : Int)) = True := oT
        have q11 : (x6_1 < (a0.size : Int)) = True := oT
        have hx11 := bt_at a0 x6_1
        go_wp2
        go_meet
        case rel => exact ⟨_, (((bt a0 x6_1) != 47)), oS, H', ⟨by have := HK1.out; first | omega | exact Nat.le_refl _⟩, ⟨oR HO_4⟩, ⟨oB⟩⟩
       ·cases H
      ·(first | rw [c9b0] | rw [c9b2] | (simp only [i64_w, i32_w]; rw [c9b0]) | skip)
       have H' := Aside0.mk H
       clear H
       go_wp2
       go_meet
       case rel => exact ⟨_, (false), oS, H', ⟨by have := HK1.out; first | omega | exact Nat.le_refl _⟩, ⟨oR HO_4⟩, ⟨oB⟩⟩
     case rest =>
      clear HC8
      try clear c2
      try clear c7b0
      obtain ⟨kq, x27_7, rfl, HA, HJ7, HO_4, HB⟩ := hcut
      cases kq with
      | zero => exact absurd HA.out (by simp [spec_SplitPath.j1])
      | succ kj7 =>
       have H := HA.out
       clear HA
       simp only [spec_SplitPath.j1] at H
       replace H := itB H
       rcases H with ⟨rfl, H⟩ | ⟨rfl, H⟩
       ·have H' := Aside0.mk H
        clear H
        go_wp2
        go_roundg kj7
        case measure => have := HK1.out; have := HJ7.out; omega
        case rel => exact ⟨(x4_1), (x5_1), (wrap64 (x6_1 + 1)), oS, oS, H', ⟨by have := HK1.out; have := HJ7.out; omega⟩, ⟨oR HO_4⟩, ⟨oB⟩⟩
       ·replace H := itG H
        rcases H with ⟨c13b0, H⟩ | ⟨c13b0, H⟩
        ·by_cases c14 : 0 ≤ x5_1
         ·rw [if_pos c14] at H
          have c14b0 := eq_true c14
          have c14b1 : decide (0 ≤ x5_1) = true := decide_eq_true c14
          clear c14
          by_cases c15 : x5_1 ≤ x6_1
          ·rw [if_pos c15] at H
           have c15b0 := eq_true c15
           have c15b1 : decide (x5_1 ≤ x6_1) = true := decide_eq_true c15
           clear c15
           by_cases c16 : x6_1 ≤ (a0.size : Int)
           ·rw [if_pos c16] at H
            have c16b0 := eq_true c16
            have c16b1 : decide (x6_1 ≤ (a0.size : Int)) = true := decide_eq_true c16
            clear c16
            replace H := bA H
            obtain ⟨t113, A17, H⟩ := H
            try dsimp only at H
            replace H := itB H
            rcases H with ⟨rfl, H⟩ | ⟨rfl, H⟩
            ·by_cases c19 : (x4_1.length : Int) = 30
             ·rw [if_pos c19] at H
              have c19b0 : ((x4_1.length : Int) == 30) = true := beq_iff_eq.mpr c19
              have c19b1 : ((x4_1.length : Int) != 30) = false := bne_eq_false_iff_eq.mpr c19
              clear c19
              obtain ⟨y114, hy114⟩ : ∃ y_ : List ByteArray, y_ = (([] : List ByteArray)) := ⟨_, rfl⟩
              replace H : (some (y114, false)) = some (r1, r2) := by first | (rw [hy114]; with_reducible exact H) | (have H2_ := (Option.bind_some _ _).symm.trans H; rw [hy114]; with_reducible exact H2_) | (have H2_ := (Option.bind_some _ _).symm.trans H; with_reducible exact H2_) | with_reducible exact H | (rw [hy114]; exact H) | exact H
              have Ny114 := Aside0.mk hy114
              clear hy114
              simp only [Option.some.injEq, Prod.mk.injEq] at H
              obtain ⟨rfl, rfl⟩ := H
              go_wp2_with (first | ((with_reducible refine gate_callee (f := 53) rfl ?_); refine gl_ 35 Tryd.func53 (spec_NameOk.calls kj7 (a0.extract (x5_1 : Int).toNat (x6_1 : Int).toNat) true _ A17.out) ?_; rintro e w' ⟨rfl, ⟨nd, rfl⟩⟩; refine ⟨_, rfl, ?_⟩; obtain ⟨Ao20, co20, eo20⟩ := Kd.R_slice HO_4.out; subst eo20) | ((with_reducible refine gate_dst (N := 42) rfl ?_); (try (refine gate_guard (by rfl) ?_; dsimp only)); refine Kd.R_lit Kd.string _ 9 ?hg (N := 42) ?hd (xs := ([] : List ByteArray)) (inner := []) (ok := fun _ => True) (okp := fun _ => True) ?hr ?hp (fun _ hk => hk) trivial (Below.refl _ _) (Nat.le_refl _) (by simp) ?_; (case hd => rfl); (case hg => rfl); (case hr => first | (go_simp; done) | (go_simp; rfl)); (case hp => exact (Reps.none _ _)); intro v115 w21 ho22 hb hg_ hnew_; clear hg_ hnew_; (first | rw [← Ny114.out] at ho22 | (simp only [Int.reduceToNat] at ho22; rw [← Ny114.out] at ho22)); have HO116 := Aside0.mk (Kd.R_lower (Kd.R_new' ho22 (kl_ HO_4)) (below_size oB)); replace HO_4 := ke_ HO_4 ho22 hb; replace HB := Aside0.mk (below_step oB hb); clear hb ho22))
              go_ret2
              exact ⟨_, oE, by (with_reducible repeat (first | apply Kd.R_alloc | apply Kd.R_drewN | apply Kd.R_drew)); exact Kd.R_mono HO116.out (fun _ hk => trivial), oB⟩
             ·rw [if_neg c19] at H
              have c19b0 : ((x4_1.length : Int) == 30) = false := beq_eq_false_iff_ne.mpr c19
              have c19b1 : ((x4_1.length : Int) != 30) = true := bne_iff_ne.mpr c19
              by_cases c23 : x4_1.length < 8796093022208
              ·rw [if_pos c23] at H
               have LMc23 := Aside0.mk c23
               clear c23
               obtain ⟨y117, hy117⟩ : ∃ y_ : List ByteArray, y_ = (x4_1 ++ [a0.extract (x5_1 : Int).toNat (x6_1 : Int).toNat]) := ⟨_, rfl⟩
               replace H : (spec_SplitPath.l0 kj7 a0 y117 (wrap64 (x6_1 + 1)) (wrap64 (x6_1 + 1))) = some (r1, r2) := by first | (rw [hy117]; with_reducible exact H) | (have H2_ := (Option.bind_some _ _).symm.trans H; rw [hy117]; with_reducible exact H2_) | (have H2_ := (Option.bind_some _ _).symm.trans H; with_reducible exact H2_) | with_reducible exact H | (rw [hy117]; exact H) | exact H
               have Ny117 := Aside0.mk hy117
               clear hy117
               have H' := Aside0.mk H
               clear H
               go_wp2_with (first | ((with_reducible refine gate_callee (f := 53) rfl ?_); refine gl_ 35 Tryd.func53 (spec_NameOk.calls kj7 (a0.extract (x5_1 : Int).toNat (x6_1 : Int).toNat) true _ A17.out) ?_; rintro e w' ⟨rfl, ⟨nd, rfl⟩⟩; refine ⟨_, rfl, ?_⟩; obtain ⟨Ao24, co24, eo24⟩ := Kd.R_slice HO_4.out; subst eo24) | ((with_reducible refine gate_builtin (b := .append) (xs := #[.tmp 43, .tmp 45]) rfl ?_); (try (refine gate_guard (by rfl) ?_; dsimp only)); at_builtin; refine Kd.R_append Kd.string (w0 := w) w.heap.size rfl (.tmp 43) (.tmp 45) 23 9 (.string ⟨#[]⟩) 16 rfl Tryd.underlying23 info9 rfl (by decide) (by omega) (.slice Ao24 x4_1.length co24) x4_1 (a0.extract (x5_1 : Int).toNat (x6_1 : Int).toNat) [.string (a0.extract (x5_1 : Int).toNat (x6_1 : Int).toNat)] (fun _ => True) (fun _ => False) rfl rfl ?aP (fun _ hk => hk.elim) ?aF ?aO ?aB ?aS ?aL ?_; (case aP => exact rfl); (case aB => exact oB); (case aF => exact (fun _ _ => trivial)); (case aO => exact (oR HO_4)); (case aS => exact (below_size oB)); (case aL => have := LMc23.out; omega); intro v118 w25 ho hb hg hat; rw [← Ny117.out] at ho; have HO119 := Aside0.mk (ho); replace HB := Aside0.mk (hb); clear HO_4; clear ho hb hg hat))
               go_roundg kj7
               case measure => have := HK1.out; have := HJ7.out; omega
               case rel => exact ⟨(y117), (wrap64 (x6_1 + 1)), (wrap64 (x6_1 + 1)), oS, oS, H', ⟨by have := HK1.out; have := HJ7.out; omega⟩, ⟨oR HO119⟩, ⟨oB⟩⟩
              ·rw [if_neg c23] at H
               exact absurd H (by simp)
            ·obtain ⟨y120, hy120⟩ : ∃ y_ : List ByteArray, y_ = (([] : List ByteArray)) := ⟨_, rfl⟩
             replace H : (some (y120, false)) = some (r1, r2) := by first | (rw [hy120]; with_reducible exact H) | (have H2_ := (Option.bind_some _ _).symm.trans H; rw [hy120]; with_reducible exact H2_) | (have H2_ := (Option.bind_some _ _).symm.trans H; with_reducible exact H2_) | with_reducible exact H | (rw [hy120]; exact H) | exact H
             have Ny120 := Aside0.mk hy120
             clear hy120
             simp only [Option.some.injEq, Prod.mk.injEq] at H
             obtain ⟨rfl, rfl⟩ := H
             go_wp2_with (first | ((with_reducible refine gate_callee (f := 53) rfl ?_); refine gl_ 35 Tryd.func53 (spec_NameOk.calls kj7 (a0.extract (x5_1 : Int).toNat (x6_1 : Int).toNat) false _ A17.out) ?_; rintro e w' ⟨rfl, ⟨nd, rfl⟩⟩; refine ⟨_, rfl, ?_⟩) | ((with_reducible refine gate_dst (N := 42) rfl ?_); (try (refine gate_guard (by rfl) ?_; dsimp only)); refine Kd.R_lit Kd.string _ 9 ?hg (N := 42) ?hd (xs := ([] : List ByteArray)) (inner := []) (ok := fun _ => True) (okp := fun _ => True) ?hr ?hp (fun _ hk => hk) trivial (Below.refl _ _) (Nat.le_refl _) (by simp) ?_; (case hd => rfl); (case hg => rfl); (case hr => first | (go_simp; done) | (go_simp; rfl)); (case hp => exact (Reps.none _ _)); intro v121 w26 ho27 hb hg_ hnew_; clear hg_ hnew_; (first | rw [← Ny120.out] at ho27 | (simp only [Int.reduceToNat] at ho27; rw [← Ny120.out] at ho27)); have HO122 := Aside0.mk (Kd.R_lower (Kd.R_new' ho27 (kl_ HO_4)) (below_size oB)); replace HO_4 := ke_ HO_4 ho27 hb; replace HB := Aside0.mk (below_step oB hb); clear hb ho27))
             go_ret2
             exact ⟨_, oE, by (with_reducible repeat (first | apply Kd.R_alloc | apply Kd.R_drewN | apply Kd.R_drew)); exact Kd.R_mono HO122.out (fun _ hk => trivial), oB⟩
           ·rw [if_neg c16] at H
            exact absurd H (by simp)
          ·rw [if_neg c15] at H
           exact absurd H (by simp)
         ·rw [if_neg c14] at H
          exact absurd H (by simp)
        ·have H' := Aside0.mk H
         clear H
         go_wp2
         go_roundg kj7
         case measure => have := HK1.out; have := HJ7.out; omega
         case rel => exact ⟨(x4_1), (wrap64 (x6_1 + 1)), (wrap64 (x6_1 + 1)), oS, oS, H', ⟨by have := HK1.out; have := HJ7.out; omega⟩, ⟨oR HO_4⟩, ⟨oB⟩⟩
    ·by_cases c28 : (a0.size : Int) = 0
     ·rw [if_pos c28] at H
      have c28b0 : ((a0.size : Int) == 0) = true := beq_iff_eq.mpr c28
      have c28b1 : ((a0.size : Int) != 0) = false := bne_eq_false_iff_eq.mpr c28
      clear c28
      obtain ⟨y107, hy107⟩ : ∃ y_ : List ByteArray, y_ = (([] : List ByteArray)) := ⟨_, rfl⟩
      replace H : (some (y107, false)) = some (r1, r2) := by first | (rw [hy107]; with_reducible exact H) | (have H2_ := (Option.bind_some _ _).symm.trans H; rw [hy107]; with_reducible exact H2_) | (have H2_ := (Option.bind_some _ _).symm.trans H; with_reducible exact H2_) | with_reducible exact H | (rw [hy107]; exact H) | exact H
      have Ny107 := Aside0.mk hy107
      clear hy107
      simp only [Option.some.injEq, Prod.mk.injEq] at H
      obtain ⟨rfl, rfl⟩ := H
      go_wp2_with (first | ((with_reducible refine gate_dst (N := 57) rfl ?_); (try (refine gate_guard (by rfl) ?_; dsimp only)); refine Kd.R_lit Kd.string _ 9 ?hg (N := 57) ?hd (xs := ([] : List ByteArray)) (inner := []) (ok := fun _ => True) (okp := fun _ => True) ?hr ?hp (fun _ hk => hk) trivial (Below.refl _ _) (Nat.le_refl _) (by simp) ?_; (case hd => rfl); (case hg => rfl); (case hr => first | (go_simp; done) | (go_simp; rfl)); (case hp => exact (Reps.none _ _)); intro v108 w29 ho30 hb hg_ hnew_; clear hg_ hnew_; (first | rw [← Ny107.out] at ho30 | (simp only [Int.reduceToNat] at ho30; rw [← Ny107.out] at ho30)); have HO109 := Aside0.mk (Kd.R_lower (Kd.R_new' ho30 (kl_ HO_4)) (below_size oB)); replace HO_4 := ke_ HO_4 ho30 hb; replace HB := Aside0.mk (below_step oB hb); clear hb ho30))
      go_ret2
      exact ⟨_, oE, by (with_reducible repeat (first | apply Kd.R_alloc | apply Kd.R_drewN | apply Kd.R_drew)); exact Kd.R_mono HO109.out (fun _ hk => trivial), oB⟩
     ·rw [if_neg c28] at H
      have c28b0 : ((a0.size : Int) == 0) = false := beq_eq_false_iff_ne.mpr c28
      have c28b1 : ((a0.size : Int) != 0) = true := bne_iff_ne.mpr c28
      by_cases c31 : 0 < (a0.size : Int)
      ·rw [if_pos c31] at H
       have c31b0 : decide (0 < (a0.size : Int)) = true := decide_eq_true c31
       have c31b1 : decide (0 < a0.size) = true := decide_eq_true (by omega)
       clear c31
       by_cases c33 : (bt a0 0) = 47
       ·rw [if_pos c33] at H
        have c33b0 : ((bt a0 0) == 47) = true := beq_iff_eq.mpr c33
        have c33b1 : ((bt a0 0) != 47) = false := bne_eq_false_iff_eq.mpr c33
        clear c33
        simp only [Option.some.injEq, Prod.mk.injEq] at H
        obtain ⟨rfl, rfl⟩ := H
        have p32 : 0 ≤ (0 : Int) := (by omega)
        have q32 : 0 < a0.size := (by have : (0 : Int) < (a0.size : Int) := oa; omega)
        have hx32 : ∀ h : 0 < a0.size, ((a0[0]'h).toNat : Int) = bt a0 0 := bt_at a0 0
        clear p32
        have qi32 : (0 < (a0.size : Int)) = True := eq_true oa
        replace q32 := eq_true q32
        go_wp2
        go_ret2
        exact ⟨_, oE, oR HO_4, oB⟩
       ·rw [if_neg c33] at H
        have c33b0 : ((bt a0 0) == 47) = false := beq_eq_false_iff_ne.mpr c33
        have c33b1 : ((bt a0 0) != 47) = true := bne_iff_ne.mpr c33
        obtain ⟨y110, hy110⟩ : ∃ y_ : List ByteArray, y_ = (([] : List ByteArray)) := ⟨_, rfl⟩
        replace H : (some (y110, false)) = some (r1, r2) := by first | (rw [hy110]; with_reducible exact H) | (have H2_ := (Option.bind_some _ _).symm.trans H; rw [hy110]; with_reducible exact H2_) | (have H2_ := (Option.bind_some _ _).symm.trans H; with_reducible exact H2_) | with_reducible exact H | (rw [hy110]; exact H) | exact H
        have Ny110 := Aside0.mk hy110
        clear hy110
        simp only [Option.some.injEq, Prod.mk.injEq] at H
        obtain ⟨rfl, rfl⟩ := H
        have p32 : 0 ≤ (0 : Int) := (by omega)
        have q32 : 0 < a0.size := (by have : (0 : Int) < (a0.size : Int) := oa; omega)
        have hx32 : ∀ h : 0 < a0.size, ((a0[0]'h).toNat : Int) = bt a0 0 := bt_at a0 0
        clear p32
        have qi32 : (0 < (a0.size : Int)) = True := eq_true oa
        replace q32 := eq_true q32
        go_wp2_with (first | ((with_reducible refine gate_dst (N := 57) rfl ?_); (try (refine gate_guard (by rfl) ?_; dsimp only)); refine Kd.R_lit Kd.string _ 9 ?hg (N := 57) ?hd (xs := ([] : List ByteArray)) (inner := []) (ok := fun _ => True) (okp := fun _ => True) ?hr ?hp (fun _ hk => hk) trivial (Below.refl _ _) (Nat.le_refl _) (by simp) ?_; (case hd => rfl); (case hg => rfl); (case hr => first | (go_simp; done) | (go_simp; rfl)); (case hp => exact (Reps.none _ _)); intro v111 w34 ho35 hb hg_ hnew_; clear hg_ hnew_; (first | rw [← Ny110.out] at ho35 | (simp only [Int.reduceToNat] at ho35; rw [← Ny110.out] at ho35)); have HO112 := Aside0.mk (Kd.R_lower (Kd.R_new' ho35 (kl_ HO_4)) (below_size oB)); replace HO_4 := ke_ HO_4 ho35 hb; replace HB := Aside0.mk (below_step oB hb); clear hb ho35))
        go_ret2
        exact ⟨_, oE, by (with_reducible repeat (first | apply Kd.R_alloc | apply Kd.R_drewN | apply Kd.R_drew)); exact Kd.R_mono HO112.out (fun _ hk => trivial), oB⟩
      ·rw [if_neg c31] at H
       exact absurd H (by simp)

/-! ### strings_Split: function 54 -/
def GOk (w : World) : Prop := ∃ m, w.cell? ⟨Tryd.laysM146_ren.g 1, 0, none⟩ = some (.int .i64 m)
theorem gk_ {w W : World} (h : Below w.heap.size w W) (hg : Aside0 (GOk w)) : GOk W := by
 obtain ⟨m, hm⟩ := hg.out
 exact ⟨m, pw_cell_below h hm⟩
def strings_Split.f (a0 a1 : ByteArray) : Option (List ByteArray) := if a0.size < 4294967281 ∧ 1 ≤ a1.size then some (Lib.splitB a1 0 (Lib.countB a0 a1) a0) else none
theorem strings_Split.calls (a0 a1 : ByteArray) (r : List ByteArray) (w : World) (h : strings_Split.f a0 a1 = some r) (hG : GOk w := by exact gk_ oB (by first | (with_reducible assumption) | assumption)) :
  Calls Tryd.prog 54 #[.string a0, .string a1] w fun e w' => ∃ v0_ : Value, e = .returned (v0_) ∧ Kd.R Kd.string 9 w' w.heap.size (fun _ => True) v0_ r ∧ Below w.heap.size w w' := by
 unfold strings_Split.f at h
 split at h
 case isFalse => cases h
 case isTrue hc =>
 obtain rfl := Option.some.inj h
 obtain ⟨m, hm⟩ := hG
 have hl := Lib.splitB_all a1 hc.2 0 _ a0 rfl
 have hle := Lib.countB_le a1 hc.2 a0.size a0 (Nat.le_refl _)
 refine (Any.strings_Split { Tryd.laysM146 with } (by kernel_rfl) a0 a1 m w hc.1 hm hc.2).mono fun e w' ⟨he, hw⟩ => ?_
 subst hw
 refine ⟨_, he, ?_, (Below.refl _ _).alloc (Nat.le_refl _) _⟩
 refine Kd.R_of_own (enc := Value.string) (h1 := fun _ => rfl) ?_ (fun _ _ => trivial)
 have ho := World.ownsRow_lit (base := w.heap.size) (e := 9) (size := 1) w ((Lib.splitB a1 0 (Lib.countB a0 a1) a0).map Value.string).toArray (Lib.countB a0 a1 + 1) (Nat.le_refl _) (by simp only [maxLen]; omega) (by simp [hl])
 rw [← hl] at ho
 rw [show (Tryd.laysM146_ren.t 9) = 9 from rfl, ← hl]
 simpa [encs] using ho
-- NOT PRINTED: function 100 (slices_IndexFunc_string_string)

-- NOT PRINTED: function 81 (slices_ContainsFunc_string_string)

/-! ### impl_namesOk: function 55 -/
theorem namesOk1.calls (k : Nat) (s : ByteArray) (t : Bool) (w : World) (h : impl_NameOk.f k s = some t) :
  Calls Tryd.prog 82 #[.string s] w fun e w' => e = .returned (.bool (!t)) ∧ Below w.heap.size w w' := by
 have hc := impl_NameOk.calls k s t w h
 clear h
 go_enter Tryd.func82, Tryd.ntmps82
 go_wp2_with (go_at_call 31; refine hc.mono ?_; rintro e w1 ⟨rfl, m, rfl⟩)
 go_ret
 exact ⟨rfl, pw_below_drewN (Below.refl _ _) m⟩
/-- The first of the names that is not right, counted from i on. -/
def badR (k : Nat) : List ByteArray → Nat → Option Int
 | [], _ => some (-1)
 | x :: l, i => (impl_NameOk.f k x).bind fun t => if t = true then badR k l (i + 1) else some (i : Int)
set_option maxHeartbeats 1000000 in
set_option maxRecDepth 100000 in
theorem namesIdx.calls (k : Nat) (A0 : Option Addr) (c0 : Nat) (l : List ByteArray) (r : Int) (w : World) (hr : Kd.C Kd.string w A0 l.length l) (hl : l.length ≤ 9223372036854775807) (h : badR k l 0 = some r) :
  Calls Tryd.prog 100 #[.slice A0 l.length c0, .func (.func 82) #[] #[]] w fun e w' => e = .returned (.int .i64 r) ∧ Below w.heap.size w w' := by
 have H0 := Aside0.mk h
 clear h
 go_enter Tryd.func100, Tryd.ntmps100
 go_wp2
 go_loopg [5, 8] l.length (fun gg _ s8 wr => ∃ kk : Nat, kk ≤ l.length ∧ l.length - kk ≤ gg ∧ s8 = .int .i64 kk ∧ Aside0 (Below w.heap.size w wr) ∧ Aside0 (badR k (l.drop kk) kk = some r))
 case atStart => exact ⟨0, Nat.zero_le _, by omega, rfl, ⟨Below.refl _ w⟩, H0⟩
 case round =>
  clear H0
  obtain ⟨kk, hkk, hg, rfl, BW, HA⟩ := hrel
  by_cases hlt : kk < l.length
  ·have hltz : (kk : Int) < (l.length : Int) := by omega
   have h1 := HA.out
   rw [List.drop_eq_getElem_cons hlt, badR] at h1
   replace h1 := bA h1
   obtain ⟨t, A1, h1⟩ := h1
   obtain ⟨ad, c, e0, hcl, hK, hcell⟩ := Kd.C_get (Kd.C_below hr BW.out) ⟨#[]⟩ (kk : Int) (by omega) hltz
   cases e0
   have hx : l.getD (kk : Int).toNat ⟨#[]⟩ = l[kk] := by rw [Int.toNat_natCast, List.getD_eq_getElem?_getD, List.getElem?_eq_getElem hlt]; rfl
   rw [hx] at hK
   obtain rfl : c = [.string l[kk]] := hK
   have h0 : wr.cell? (ad.add kk) = some (.string l[kk]) := by have := hcell 0 _ rfl; simpa [Kd.string, Kd.scalar] using this
   clear hcell hcl hx
   cases t with
   | true =>
    have H' := Aside0.mk h1
    clear h1
    go_wp2_with (go_at_call 82; refine (namesOk1.calls k l[kk] true _ A1.out).mono ?_; rintro e w1 ⟨rfl, hb⟩)
    go_roundg (l.length - (kk + 1))
    case measure => omega
    case rel => exact ⟨kk + 1, by omega, by omega, by go_num, ⟨below_then BW.out BW.out.size hb⟩, H'⟩
   | false =>
    obtain rfl := Option.some.inj h1
    go_wp2_with (go_at_call 82; refine (namesOk1.calls k l[kk] false _ A1.out).mono ?_; rintro e w1 ⟨rfl, hb⟩)
    go_ret
    exact ⟨rfl, below_then BW.out BW.out.size hb⟩
  ·have hltz : ¬ (kk : Int) < (l.length : Int) := by omega
   obtain rfl : kk = l.length := by omega
   have h1 := HA.out
   rw [List.drop_length, badR] at h1
   obtain rfl := Option.some.inj h1
   go_wp2
   go_ret
   exact ⟨rfl, BW.out⟩
theorem namesAny.calls (k : Nat) (A0 : Option Addr) (c0 : Nat) (l : List ByteArray) (r : Int) (w : World) (hr : Kd.C Kd.string w A0 l.length l) (hl : l.length ≤ 9223372036854775807) (h : badR k l 0 = some r) :
  Calls Tryd.prog 81 #[.slice A0 l.length c0, .func (.func 82) #[] #[]] w fun e w' => e = .returned (.bool (decide (0 ≤ r))) ∧ Below w.heap.size w w' := by
 have hc := namesIdx.calls k A0 c0 l r w hr hl h
 clear hr h
 go_enter Tryd.func81, Tryd.ntmps81
 go_wp2_with (go_at_call 100; refine hc.mono ?_; rintro e w1 ⟨rfl, hb⟩)
 go_ret
 exact ⟨rfl, hb⟩
def impl_namesOk.f (k : Nat) (l : List ByteArray) : Option Bool := if l.length ≤ 30 then (badR k l 0).bind fun r => some (!decide (0 ≤ r)) else some false
theorem impl_namesOk.calls (k : Nat) (A0 : Option Addr) (c0 : Nat) (l : List ByteArray) (r : Bool) (w : World) (hr : Kd.C Kd.string w A0 l.length l) (hc0 : l.length ≤ c0) (h : impl_namesOk.f k l = some r) :
  Calls Tryd.prog 55 #[.slice A0 l.length c0] w fun e w' => e = .returned (.bool r) ∧ Below w.heap.size w w' := by
 unfold impl_namesOk.f at h
 split at h
 case isTrue hl =>
  replace h := bA h
  obtain ⟨i, A1, h⟩ := h
  obtain rfl := Option.some.inj h
  have hc := namesAny.calls k A0 c0 l i w hr (by omega) A1.out
  have hlz : decide ((l.length : Int) ≤ 30) = true := decide_eq_true (by omega)
  clear hr h hl hc0
  go_enter Tryd.func55, Tryd.ntmps55
  go_wp2_with (go_at_call 81; refine hc.mono ?_; rintro e w1 ⟨rfl, hb⟩)
  go_ret
  exact ⟨rfl, hb⟩
 case isFalse hl =>
  obtain rfl := Option.some.inj h
  have hlz : decide ((l.length : Int) ≤ 30) = false := decide_eq_false (by omega)
  clear hr h hl hc0
  go_enter Tryd.func55, Tryd.ntmps55
  go_wp2
  go_ret
  exact ⟨rfl, Below.refl _ _⟩
/-! ### impl_SplitPath: function 17 -/
def impl_SplitPath.f (k : Nat) (a0 : ByteArray) : Option (List ByteArray × Bool) := if a0.toList = ([47] : List UInt8) then (some (([] : List ByteArray), true)) else ((strings_Split.f a0 (⟨#[47]⟩ : ByteArray)).bind fun t123 => (if 0 < (t123.length : Int) then (if (rdOf ByteArray.empty t123 0).toList = ([] : List UInt8) then (if (t123.length : Int) < 2 then (some (([] : List ByteArray), false)) else (if 1 ≤ (t123.length : Int) then ((impl_namesOk.f k (t123.drop 1)).bind fun t131 => (if t131 = true then (some ((t123.drop (1 : Int).toNat), true)) else (some (([] : List ByteArray), false)))) else (none))) else (some (([] : List ByteArray), false))) else (none)))
set_option maxHeartbeats 8000000 in
set_option maxRecDepth 100000 in
theorem impl_SplitPath.calls (k : Nat) (a0 : ByteArray) (r1 : List ByteArray) (r2 : Bool) (w : World) (h : impl_SplitPath.f k a0 = some (r1, r2)) (hG : GOk w := by exact gk_ oB (by first | (with_reducible assumption) | assumption)) :
  Calls Tryd.prog 17 #[.string a0] w fun e w' => ∃ v0_ : Value, e = .returned (.tuple #[v0_, .bool r2]) ∧ Kd.Q Kd.string 9 w' w.heap.size (fun _ => True) v0_ r1 ∧ Below w.heap.size w w' := by
 have HG := Aside0.mk hG
 clear hG
 have HB := Aside0.mk (Below.refl w.heap.size w)
 unfold impl_SplitPath.f at h
 have H := h
 clear h
 by_cases c2 : a0.toList = ([47] : List UInt8)
 ·rw [if_pos c2] at H
  have c2b0 : (a0.toList == ([47] : List UInt8)) = true := beq_iff_eq.mpr c2
  have c2b1 : (a0.toList != ([47] : List UInt8)) = false := bne_eq_false_iff_eq.mpr c2
  clear c2
  simp only [Option.some.injEq, Prod.mk.injEq] at H
  obtain ⟨rfl, rfl⟩ := H
  go_enter Tryd.func17, Tryd.ntmps17
  go_wp2
  go_ret2
  exact ⟨_, oE, Kd.Q_of_R (by first | exact Kd.R_nil _ _ _ _ _ | exact Kd.N_nil _ _ _ _ _ | exact Kd.V_nil _ _ _ _ _ | exact Kd.Q_nil _ _ _ _ _ | exact Kd.S_nil _ _ _ _ _), oB⟩
 ·rw [if_neg c2] at H
  have c2b0 : (a0.toList == ([47] : List UInt8)) = false := beq_eq_false_iff_ne.mpr c2
  have c2b1 : (a0.toList != ([47] : List UInt8)) = true := bne_iff_ne.mpr c2
  replace H := bA H
  obtain ⟨t123, A3, H⟩ := H
  try dsimp only at H
  by_cases c4 : 0 < (t123.length : Int)
  ·rw [if_pos c4] at H
   have c4b0 : decide (0 < (t123.length : Int)) = true := decide_eq_true c4
   have c4b1 : decide (0 < t123.length) = true := decide_eq_true (by omega)
   clear c4
   by_cases c5 : (rdOf ByteArray.empty t123 0).toList = ([] : List UInt8)
   ·rw [if_pos c5] at H
    have c5b0 : ((rdOf ByteArray.empty t123 0).toList == ([] : List UInt8)) = true := beq_iff_eq.mpr c5
    have c5b1 : ((rdOf ByteArray.empty t123 0).toList != ([] : List UInt8)) = false := bne_eq_false_iff_eq.mpr c5
    clear c5
    by_cases c6 : (t123.length : Int) < 2
    ·rw [if_pos c6] at H
     have c6b0 : decide ((t123.length : Int) < 2) = true := decide_eq_true c6
     have c6b1 : decide (t123.length < 2) = true := decide_eq_true (by omega)
     clear c6
     simp only [Option.some.injEq, Prod.mk.injEq] at H
     obtain ⟨rfl, rfl⟩ := H
     go_enter Tryd.func17, Tryd.ntmps17
     go_wp2_with (first | ((with_reducible refine gate_callee (f := 54) rfl ?_); refine gl_ 8 Tryd.func54 (strings_Split.calls a0 (⟨#[47]⟩ : ByteArray) t123 _ A3.out) ?_; rintro e w7 ⟨v124, rfl, ho0, hb⟩; refine ⟨_, rfl, ?_⟩; have HO125 := Aside0.mk (Kd.R_lower ho0 (below_size oB)); replace HB := Aside0.mk (below_step oB hb); obtain ⟨Ao8, co8, eo8⟩ := Kd.R_slice HO125.out; subst eo8; have p126 : 0 ≤ (0 : Int) := (by omega); have q126 : 0 < (t123.length : Int) := oa; obtain ⟨ad126, e126, hx126_0⟩ := Kd.at_string (Kd.R_reads' HO125.out).2.2 0 p126 q126; cases e126; have qi126 : (0 < t123.length) = True := eq_true (by omega); (try rw [show ((0 : Int)).toNat = 0 from rfl] at hx126_0); (try rw [Addr.add_zero'] at hx126_0); replace p126 := eq_true p126; replace q126 := eq_true q126))
     go_ret2
     exact ⟨_, oE, Kd.Q_of_R (by first | exact Kd.R_nil _ _ _ _ _ | exact Kd.N_nil _ _ _ _ _ | exact Kd.V_nil _ _ _ _ _ | exact Kd.Q_nil _ _ _ _ _ | exact Kd.S_nil _ _ _ _ _), oB⟩
    ·rw [if_neg c6] at H
     have c6b0 : decide ((t123.length : Int) < 2) = false := decide_eq_false c6
     have c6b1 : decide (t123.length < 2) = false := decide_eq_false (by omega)
     clear c6
     by_cases c9 : 1 ≤ (t123.length : Int)
     ·rw [if_pos c9] at H
      have c9b0 := eq_true c9
      have c9b1 : decide (1 ≤ (t123.length : Int)) = true := decide_eq_true c9
      clear c9
      obtain ⟨y127, hy127⟩ : ∃ y_ : List ByteArray, y_ = (t123.drop 1) := ⟨_, rfl⟩
      replace H : ((impl_namesOk.f k y127).bind fun t131 => (if t131 = true then (some ((t123.drop (1 : Int).toNat), true)) else (some (([] : List ByteArray), false)))) = some (r1, r2) := by first | (rw [hy127]; with_reducible exact H) | (have H2_ := (Option.bind_some _ _).symm.trans H; rw [hy127]; with_reducible exact H2_) | (have H2_ := (Option.bind_some _ _).symm.trans H; with_reducible exact H2_) | with_reducible exact H | (rw [hy127]; exact H) | exact H
      have Ny127 := Aside0.mk hy127
      clear hy127
      replace H := bA H
      obtain ⟨t131, A10, H⟩ := H
      try dsimp only at H
      replace H := itB H
      rcases H with ⟨rfl, H⟩ | ⟨rfl, H⟩
      ·have c12b0 := eq_true (oa : 1 ≤ (t123.length : Int))
       obtain ⟨y132, hy132⟩ : ∃ y_ : List ByteArray, y_ = (t123.drop (1 : Int).toNat) := ⟨_, rfl⟩
       replace H : (some (y132, true)) = some (r1, r2) := by first | (rw [hy132]; with_reducible exact H) | (have H2_ := (Option.bind_some _ _).symm.trans H; rw [hy132]; with_reducible exact H2_) | (have H2_ := (Option.bind_some _ _).symm.trans H; with_reducible exact H2_) | with_reducible exact H | (rw [hy132]; exact H) | exact H
       have Ny132 := Aside0.mk hy132
       clear hy132
       simp only [Option.some.injEq, Prod.mk.injEq] at H
       obtain ⟨rfl, rfl⟩ := H
       go_enter Tryd.func17, Tryd.ntmps17
       go_wp2_with (first | ((with_reducible refine gate_callee (f := 54) rfl ?_); refine gl_ 8 Tryd.func54 (strings_Split.calls a0 (⟨#[47]⟩ : ByteArray) t123 _ A3.out) ?_; rintro e w13 ⟨v124, rfl, ho0, hb⟩; refine ⟨_, rfl, ?_⟩; have HO125 := Aside0.mk (Kd.R_lower ho0 (below_size oB)); replace HB := Aside0.mk (below_step oB hb); obtain ⟨Ao14, co14, eo14⟩ := Kd.R_slice HO125.out; subst eo14; have p126 : 0 ≤ (0 : Int) := (by omega); have q126 : 0 < (t123.length : Int) := oa; obtain ⟨ad126, e126, hx126_0⟩ := Kd.at_string (Kd.R_reads' HO125.out).2.2 0 p126 q126; cases e126; have qi126 : (0 < t123.length) = True := eq_true (by omega); (try rw [show ((0 : Int)).toNat = 0 from rfl] at hx126_0); (try rw [Addr.add_zero'] at hx126_0); replace p126 := eq_true p126; replace q126 := eq_true q126; have q15 : (1 : Int) ≤ ((t123.length : Int) : Int) := oa; obtain ⟨i015, hi015, _, hsz15, _⟩ := info_parts info9; have hroom15 : t123.length ≤ co14 := (Kd.R_reads' HO125.out).2.1; have hC15 : Kd.C Kd.string _ (some ad126) t123.length t123 := (Kd.R_reads' HO125.out).2.2; have hcut15 := cut_from (P := Tryd.prog) 23 9 .i64 Tryd.underlying23 hi015 1 hsz15 (some ad126) t123.length co14 1 (by omega) q15; have hr15 := Kd.C_drop (m := (1 : Int).toNat) (c := co14) hC15 (by omega) hroom15; obtain ⟨A15, hA15⟩ : ∃ A1, A1 = (if co14 = (1 : Int).toNat then (some ad126) else ((some ad126) : Option Addr).map (·.add ((1 : Int).toNat * 1))) := ⟨_, rfl⟩; obtain ⟨c15, hc15⟩ : ∃ c1, c1 = co14 - (1 : Int).toNat := ⟨_, rfl⟩; have hy15 : y127.length = t123.length - (1 : Int).toNat := (by rw [Ny127.out, List.length_drop] <;> omega); rw [show (t123).drop (1 : Int).toNat = y127 from Ny127.out.symm] at hr15; replace hr15 : Kd.C Kd.string _ A15 y127.length y127 := (by rw [hA15]; exact hr15); rw [← hy15, ← hA15, ← hc15] at hcut15; have HR130 := Aside0.mk hr15; have HC130 := Aside0.mk (show y127.length ≤ c15 from by rw [hy15, hc15]; exact Nat.sub_le_sub_right hroom15 _); have KC15 := Aside0.mk hc15; clear hr15 hC15 hroom15 hi015 hsz15 hc15; have KY15 := Aside0.mk hy15; have KA15 := Aside0.mk hA15; clear hy15 hA15; have KL15 := Aside0.mk (show 1 ≤ t123.length from by omega); replace q15 := eq_true q15) | (go_at_call 55; (with_reducible refine (impl_namesOk.calls k _ _ y127 true _ ?side1 HC130.out A10.out).mono ?_); (case side1 => repeat (first | exact (by repeat (first | (with_reducible exact HR130.out) | (with_reducible refine Kd.C_alloc ?_ _) | (with_reducible refine Kd.C_drewN ?_ _) | (with_reducible refine Kd.C_drew ?_) | exact HR130.out)) | (with_reducible refine Kd.C_alloc ?_ _) | (with_reducible refine Kd.C_drewN ?_ _) | (with_reducible refine Kd.C_drew ?_))); rintro e w16 ⟨rfl, hb⟩; replace HO125 := kr_ HO125 hb; replace HR130 := Aside0.mk (Kd.C_below (by repeat (first | (with_reducible exact HR130.out) | (with_reducible refine Kd.C_alloc ?_ _) | (with_reducible refine Kd.C_drewN ?_ _) | (with_reducible refine Kd.C_drew ?_) | exact HR130.out)) hb); replace HB := Aside0.mk (below_step oB hb); have q17 : (1 : Int) ≤ ((t123.length : Int) : Int) := oa; obtain ⟨i017, hi017, _, hsz17, _⟩ := info_parts info9; have hcut17 := cut_from (P := Tryd.prog) 23 9 .i64 Tryd.underlying23 hi017 1 hsz17 (some ad126) t123.length co14 1 (by omega) q17; have hr17 := Kd.Q_drop (k := (1 : Int).toNat) (Kd.Q_of_R HO125.out) (by omega); obtain ⟨A17, hA17⟩ : ∃ A1, A1 = (if co14 = (1 : Int).toNat then (some ad126) else ((some ad126) : Option Addr).map (·.add ((1 : Int).toNat * 1))) := ⟨_, rfl⟩; obtain ⟨c17, hc17⟩ : ∃ c1, c1 = co14 - (1 : Int).toNat := ⟨_, rfl⟩; have hy17 : y132.length = t123.length - (1 : Int).toNat := (by rw [Ny132.out, List.length_drop]); rw [← Ny132.out] at hr17; rw [← hy17, ← hA17, ← hc17] at hcut17; replace hr17 : Kd.Q Kd.string 9 w16 w.heap.size (fun _ => True) (.slice A17 y132.length c17) y132 := (by rw [hA17, hc17, hy17]; exact hr17); have HE17 : Aside0 ((Value.slice A17 y132.length c17).ownBlock = (.slice (some ad126) t123.length co14 : Value).ownBlock) := ⟨by rw [hA17]; split <;> (cases ((some ad126) : Option Addr) <;> rfl)⟩; obtain rfl : A15 = A17 := KA15.out.trans hA17.symm; obtain rfl : c15 = c17 := KC15.out.trans hc17.symm; obtain rfl : y127 = y132 := Ny127.out.trans Ny132.out.symm; clear hy17 hi017 hsz17 HO125 hA17 hc17; have HO134 := Aside0.mk hr17; clear hr17; replace q17 := eq_true q17))
       go_ret2
       exact ⟨_, oE, by (with_reducible repeat (first | apply Kd.Q_alloc | apply Kd.Q_drewN | apply Kd.Q_drew)); exact HO134.out, oB⟩
      ·simp only [Option.some.injEq, Prod.mk.injEq] at H
       obtain ⟨rfl, rfl⟩ := H
       go_enter Tryd.func17, Tryd.ntmps17
       go_wp2_with (first | ((with_reducible refine gate_callee (f := 54) rfl ?_); refine gl_ 8 Tryd.func54 (strings_Split.calls a0 (⟨#[47]⟩ : ByteArray) t123 _ A3.out) ?_; rintro e w18 ⟨v124, rfl, ho0, hb⟩; refine ⟨_, rfl, ?_⟩; have HO125 := Aside0.mk (Kd.R_lower ho0 (below_size oB)); replace HB := Aside0.mk (below_step oB hb); obtain ⟨Ao19, co19, eo19⟩ := Kd.R_slice HO125.out; subst eo19; have p126 : 0 ≤ (0 : Int) := (by omega); have q126 : 0 < (t123.length : Int) := oa; obtain ⟨ad126, e126, hx126_0⟩ := Kd.at_string (Kd.R_reads' HO125.out).2.2 0 p126 q126; cases e126; have qi126 : (0 < t123.length) = True := eq_true (by omega); (try rw [show ((0 : Int)).toNat = 0 from rfl] at hx126_0); (try rw [Addr.add_zero'] at hx126_0); replace p126 := eq_true p126; replace q126 := eq_true q126; have q20 : (1 : Int) ≤ ((t123.length : Int) : Int) := oa; obtain ⟨i020, hi020, _, hsz20, _⟩ := info_parts info9; have hroom20 : t123.length ≤ co19 := (Kd.R_reads' HO125.out).2.1; have hC20 : Kd.C Kd.string _ (some ad126) t123.length t123 := (Kd.R_reads' HO125.out).2.2; have hcut20 := cut_from (P := Tryd.prog) 23 9 .i64 Tryd.underlying23 hi020 1 hsz20 (some ad126) t123.length co19 1 (by omega) q20; have hr20 := Kd.C_drop (m := (1 : Int).toNat) (c := co19) hC20 (by omega) hroom20; obtain ⟨A20, hA20⟩ : ∃ A1, A1 = (if co19 = (1 : Int).toNat then (some ad126) else ((some ad126) : Option Addr).map (·.add ((1 : Int).toNat * 1))) := ⟨_, rfl⟩; obtain ⟨c20, hc20⟩ : ∃ c1, c1 = co19 - (1 : Int).toNat := ⟨_, rfl⟩; have hy20 : y127.length = t123.length - (1 : Int).toNat := (by rw [Ny127.out, List.length_drop] <;> omega); rw [show (t123).drop (1 : Int).toNat = y127 from Ny127.out.symm] at hr20; replace hr20 : Kd.C Kd.string _ A20 y127.length y127 := (by rw [hA20]; exact hr20); rw [← hy20, ← hA20, ← hc20] at hcut20; have HR130 := Aside0.mk hr20; have HC130 := Aside0.mk (show y127.length ≤ c20 from by rw [hy20, hc20]; exact Nat.sub_le_sub_right hroom20 _); clear hr20 hC20 hroom20 hi020 hsz20 hc20; have KY20 := Aside0.mk hy20; have KA20 := Aside0.mk hA20; clear hy20 hA20; have KL20 := Aside0.mk (show 1 ≤ t123.length from by omega); replace q20 := eq_true q20) | (go_at_call 55; (with_reducible refine (impl_namesOk.calls k _ _ y127 false _ ?side1 HC130.out A10.out).mono ?_); (case side1 => repeat (first | exact (by repeat (first | (with_reducible exact HR130.out) | (with_reducible refine Kd.C_alloc ?_ _) | (with_reducible refine Kd.C_drewN ?_ _) | (with_reducible refine Kd.C_drew ?_) | exact HR130.out)) | (with_reducible refine Kd.C_alloc ?_ _) | (with_reducible refine Kd.C_drewN ?_ _) | (with_reducible refine Kd.C_drew ?_))); rintro e w21 ⟨rfl, hb⟩; replace HO125 := kr_ HO125 hb; replace HR130 := Aside0.mk (Kd.C_below (by repeat (first | (with_reducible exact HR130.out) | (with_reducible refine Kd.C_alloc ?_ _) | (with_reducible refine Kd.C_drewN ?_ _) | (with_reducible refine Kd.C_drew ?_) | exact HR130.out)) hb); replace HB := Aside0.mk (below_step oB hb)))
       go_ret2
       exact ⟨_, oE, Kd.Q_of_R (by first | exact Kd.R_nil _ _ _ _ _ | exact Kd.N_nil _ _ _ _ _ | exact Kd.V_nil _ _ _ _ _ | exact Kd.Q_nil _ _ _ _ _ | exact Kd.S_nil _ _ _ _ _), oB⟩
     ·rw [if_neg c9] at H
      exact absurd H (by simp)
   ·rw [if_neg c5] at H
    have c5b0 : ((rdOf ByteArray.empty t123 0).toList == ([] : List UInt8)) = false := beq_eq_false_iff_ne.mpr c5
    have c5b1 : ((rdOf ByteArray.empty t123 0).toList != ([] : List UInt8)) = true := bne_iff_ne.mpr c5
    simp only [Option.some.injEq, Prod.mk.injEq] at H
    obtain ⟨rfl, rfl⟩ := H
    go_enter Tryd.func17, Tryd.ntmps17
    go_wp2_with (first | ((with_reducible refine gate_callee (f := 54) rfl ?_); refine gl_ 8 Tryd.func54 (strings_Split.calls a0 (⟨#[47]⟩ : ByteArray) t123 _ A3.out) ?_; rintro e w22 ⟨v124, rfl, ho0, hb⟩; refine ⟨_, rfl, ?_⟩; have HO125 := Aside0.mk (Kd.R_lower ho0 (below_size oB)); replace HB := Aside0.mk (below_step oB hb); obtain ⟨Ao23, co23, eo23⟩ := Kd.R_slice HO125.out; subst eo23; have p126 : 0 ≤ (0 : Int) := (by omega); have q126 : 0 < (t123.length : Int) := oa; obtain ⟨ad126, e126, hx126_0⟩ := Kd.at_string (Kd.R_reads' HO125.out).2.2 0 p126 q126; cases e126; have qi126 : (0 < t123.length) = True := eq_true (by omega); (try rw [show ((0 : Int)).toNat = 0 from rfl] at hx126_0); (try rw [Addr.add_zero'] at hx126_0); replace p126 := eq_true p126; replace q126 := eq_true q126))
    go_ret2
    exact ⟨_, oE, Kd.Q_of_R (by first | exact Kd.R_nil _ _ _ _ _ | exact Kd.N_nil _ _ _ _ _ | exact Kd.V_nil _ _ _ _ _ | exact Kd.Q_nil _ _ _ _ _ | exact Kd.S_nil _ _ _ _ _), oB⟩
  ·rw [if_neg c4] at H
   exact absurd H (by simp)

/-! ### laws_eqStringS: function 18 -/
def laws_eqStringS.l0 : Nat → List ByteArray → List ByteArray → Int → Option (Bool)
 | 0, _, _, _ => none
 | k + 1, x0, x1, x5 => if x5 < (x0.length : Int) then (if 0 ≤ x5 then (if x5 < (x1.length : Int) then (if (rdOf ByteArray.empty x0 x5).toList = (rdOf ByteArray.empty x1 x5).toList then (laws_eqStringS.l0 k x0 x1 (wrap64 (x5 + 1))) else (some false)) else (none)) else (none)) else (some true)
def laws_eqStringS.f (k : Nat) (l0 : List ByteArray) (l1 : List ByteArray) : Option (Bool) := if (l0.length : Int) = (l1.length : Int) then (laws_eqStringS.l0 k l0 l1 0) else (some false)
set_option maxHeartbeats 8000000 in
set_option maxRecDepth 100000 in
theorem laws_eqStringS.calls (k : Nat) (A0 : Option Addr) (c0 : Nat) (l0 : List ByteArray) (A1 : Option Addr) (c1 : Nat) (l1 : List ByteArray) (r : Bool) (w : World) (hr0 : Kd.C Kd.string w A0 l0.length l0) (hc0 : l0.length ≤ c0) (hr1 : Kd.C Kd.string w A1 l1.length l1) (hc1 : l1.length ≤ c1) (h : laws_eqStringS.f k l0 l1 = some r) :
  Calls Tryd.prog 18 #[.slice A0 l0.length c0, .slice A1 l1.length c1] w fun e w' => e = .returned (.bool r) ∧ Drawn0 w w' := by
 have HR0 := Aside0.mk hr0
 have HC0 := Aside0.mk hc0
 clear hr0 hc0
 have HR1 := Aside0.mk hr1
 have HC1 := Aside0.mk hc1
 clear hr1 hc1
 unfold laws_eqStringS.f at h
 have H := h
 clear h
 by_cases c3 : (l0.length : Int) = (l1.length : Int)
 ·rw [if_pos c3] at H
  have c3b0 : ((l0.length : Int) == (l1.length : Int)) = true := beq_iff_eq.mpr c3
  have c3b1 : ((l0.length : Int) != (l1.length : Int)) = false := bne_eq_false_iff_eq.mpr c3
  have c3b2 : (l0.length == l1.length) = true := by first | simpa using c3 | (simp at c3 ⊢; omega)
  clear c3
  have H' := Aside0.mk H
  clear H
  go_enter Tryd.func18, Tryd.ntmps18
  go_wp2
  repeat (go_quiet (fail); try go_wp2)
  go_loopg [5] k (fun kq v5 w' => ∃ (x5_1 : Int), v5 = .int .i64 x5_1 ∧ Aside0 (laws_eqStringS.l0 kq l0 l1 x5_1 = some r) ∧ Aside0 (kq ≤ k) ∧ Drawn0 w w')
  case atStart => exact ⟨(0), oS, H', ⟨Nat.le_refl _⟩, oD⟩
  case round =>
   clear H'
   try clear c1
   try clear c3
   obtain ⟨x5_1, rfl, HA, HK1, ⟨m1, rfl⟩⟩ := hrel
   cases gk with
   | zero => exact absurd HA.out (by simp [laws_eqStringS.l0])
   | succ k1 =>
    have H := HA.out
    clear HA
    simp only [laws_eqStringS.l0] at H
    replace H := itD H
    rcases H with ⟨c4b0, H⟩ | ⟨c4b0, H⟩
    ·replace H := itD H
     rcases H with ⟨c5b0, H⟩ | ⟨c5b0, H⟩
     ·replace H := itD H
      rcases H with ⟨c6b0, H⟩ | ⟨c6b0, H⟩
      ·by_cases c7 : (rdOf ByteArray.empty l0 x5_1).toList = (rdOf ByteArray.empty l1 x5_1).toList
       ·rw [if_pos c7] at H
        have c7b0 : ((rdOf ByteArray.empty l0 x5_1).toList == (rdOf ByteArray.empty l1 x5_1).toList) = true := beq_iff_eq.mpr c7
        have c7b1 : ((rdOf ByteArray.empty l0 x5_1).toList != (rdOf ByteArray.empty l1 x5_1).toList) = false := bne_eq_false_iff_eq.mpr c7
        clear c7
        have H' := Aside0.mk H
        clear H
        have p135 : (0 ≤ (x5_1 : Int)) = True := oT
        have q135 : (x5_1 < (l0.length : Int)) = True := oT
        obtain ⟨ad135, e135, hx135_0⟩ := Kd.at_string HR0.out x5_1 oa oa
        cases e135
        have p136 : (0 ≤ (x5_1 : Int)) = True := oT
        have q136 : (x5_1 < (l1.length : Int)) = True := oT
        obtain ⟨ad136, e136, hx136_0⟩ := Kd.at_string HR1.out x5_1 oa oa
        cases e136
        go_wp2
        repeat (go_quiet (fail); try go_wp2)
        go_roundg k1
        case measure => have := HK1.out; omega
        case rel => exact ⟨(wrap64 (x5_1 + 1)), oS, H', ⟨by have := HK1.out; omega⟩, oD⟩
       ·rw [if_neg c7] at H
        have c7b0 : ((rdOf ByteArray.empty l0 x5_1).toList == (rdOf ByteArray.empty l1 x5_1).toList) = false := beq_eq_false_iff_ne.mpr c7
        have c7b1 : ((rdOf ByteArray.empty l0 x5_1).toList != (rdOf ByteArray.empty l1 x5_1).toList) = true := bne_iff_ne.mpr c7
        obtain rfl := Option.some.inj H
        have p135 : (0 ≤ (x5_1 : Int)) = True := oT
        have q135 : (x5_1 < (l0.length : Int)) = True := oT
        obtain ⟨ad135, e135, hx135_0⟩ := Kd.at_string HR0.out x5_1 oa oa
        cases e135
        have p136 : (0 ≤ (x5_1 : Int)) = True := oT
        have q136 : (x5_1 < (l1.length : Int)) = True := oT
        obtain ⟨ad136, e136, hx136_0⟩ := Kd.at_string HR1.out x5_1 oa oa
        cases e136
        go_wp2
        repeat (go_quiet (fail); try go_wp2)
        go_ret
        exact ⟨oS, oD⟩
      ·cases H
     ·cases H
    ·obtain rfl := Option.some.inj H
     go_wp2
     repeat (go_quiet (fail); try go_wp2)
     go_ret
     exact ⟨oS, oD⟩
 ·rw [if_neg c3] at H
  have c3b0 : ((l0.length : Int) == (l1.length : Int)) = false := beq_eq_false_iff_ne.mpr c3
  have c3b1 : ((l0.length : Int) != (l1.length : Int)) = true := bne_iff_ne.mpr c3
  have c3b2 : (l0.length == l1.length) = false := by first | simpa using c3 | (simp at c3 ⊢; omega)
  obtain rfl := Option.some.inj H
  go_enter Tryd.func18, Tryd.ntmps18
  go_wp2
  repeat (go_quiet (fail); try go_wp2)
  go_ret
  exact ⟨oS, oD⟩

/-! ### laws_markText: function 56 -/
def laws_markText.l0 : Nat → Int → ByteArray → Option (ByteArray)
 | 0, _, _ => none
 | k + 1, x0, x3 => if x0 > 0 then ((some (([(wrap64 (48 + (Int.tmod x0 10))) % 256] : List Int) : List Int)).bind fun y137 => (if (strOfNums y137).size + x3.size ≤ 9223372036854775807 then (laws_markText.l0 k (wrap64 (Int.tdiv x0 10)) ((strOfNums y137) ++ x3)) else (none))) else (if 1 + x3.size ≤ 9223372036854775807 then (some ((⟨#[109]⟩ : ByteArray) ++ x3)) else (none))
def laws_markText.f (k : Nat) (a0 : Int) : Option (ByteArray) := if a0 ≤ 0 then (some (⟨#[109, 48]⟩ : ByteArray)) else (laws_markText.l0 k a0 (⟨#[]⟩ : ByteArray))
set_option maxHeartbeats 8000000 in
set_option maxRecDepth 100000 in
theorem laws_markText.calls (k : Nat) (a0 : Int) (r : ByteArray) (w : World) (h : laws_markText.f k a0 = some r) :
  Calls Tryd.prog 56 #[.int .i64 a0] w fun e w' => e = .returned (.string r) ∧ Below w.heap.size w w' := by
 have HB := Aside0.mk (Below.refl w.heap.size w)
 unfold laws_markText.f at h
 have H := h
 clear h
 replace H := itD H
 rcases H with ⟨c2b0, H⟩ | ⟨c2b0, H⟩
 ·obtain rfl := Option.some.inj H
  go_enter Tryd.func56, Tryd.ntmps56
  go_wp2
  go_ret
  exact ⟨oE, oB⟩
 ·have H' := Aside0.mk H
  clear H
  go_enter Tryd.func56, Tryd.ntmps56
  go_wp2
  go_loopg [0, 3] k (fun kq v0 v3 w' => ∃ (x0_1 : Int) (x3_1 : ByteArray), v0 = .int .i64 x0_1 ∧ v3 = .string x3_1 ∧ Aside0 (laws_markText.l0 kq x0_1 x3_1 = some r) ∧ Aside0 (kq ≤ k) ∧ Aside0 (Below w.heap.size w w'))
  case atStart => exact ⟨(a0), ((⟨#[]⟩ : ByteArray)), oS, oS, H', ⟨Nat.le_refl _⟩, ⟨oB⟩⟩
  case round =>
   clear H'
   try clear c2b0
   obtain ⟨x0_1, x3_1, rfl, rfl, HA, HK1, HB⟩ := hrel
   cases gk with
   | zero => exact absurd HA.out (by simp [laws_markText.l0])
   | succ k1 =>
    have H := HA.out
    clear HA
    simp only [laws_markText.l0] at H
    replace H := itG H
    rcases H with ⟨c3b0, H⟩ | ⟨c3b0, H⟩
    ·obtain ⟨y137, hy137⟩ : ∃ y_ : List Int, y_ = (([(wrap64 (48 + (Int.tmod x0_1 10))) % 256] : List Int)) := ⟨_, rfl⟩
     replace H : (if (strOfNums y137).size + x3_1.size ≤ 9223372036854775807 then (laws_markText.l0 k1 (wrap64 (Int.tdiv x0_1 10)) ((strOfNums y137) ++ x3_1)) else (none)) = some r := by first | (rw [hy137]; with_reducible exact H) | (have H2_ := (Option.bind_some _ _).symm.trans H; rw [hy137]; with_reducible exact H2_) | (have H2_ := (Option.bind_some _ _).symm.trans H; with_reducible exact H2_) | with_reducible exact H | (rw [hy137]; exact H) | exact H
     have Ny137 := Aside0.mk hy137
     clear hy137
     by_cases c4 : (strOfNums y137).size + x3_1.size ≤ 9223372036854775807
     ·rw [if_pos c4] at H
      have c4b0 := eq_true c4
      have c4b1 : decide ((strOfNums y137).size + x3_1.size ≤ 9223372036854775807) = true := decide_eq_true c4
      try have c4b2 : (9223372036854775807 < (strOfNums y137).size + x3_1.size) = False := eq_false (Nat.not_lt.2 c4)
      have H' := Aside0.mk H
      clear H
      go_wp2_with (first | ((with_reducible refine gate_dst (N := 12) rfl ?_); refine Kd.R_lit (Kd.int .u8) _ 5 ?hg (N := 12) ?hd (xs := ([(wrap64 (48 + (Int.tmod x0_1 10))) % 256] : List Int)) (inner := [.int .u8 ((wrap64 (48 + (Int.tmod x0_1 10))) % 256)]) (ok := fun _ => True) (okp := fun _ => True) ?hr ?hp (fun _ hk => hk) trivial (Below.refl _ _) (Nat.le_refl _) (by simp) ?_; (case hd => rfl); (case hg => rfl); (case hr => first | (go_simp; done) | (go_simp; rfl)); (case hp => exact (Reps.one (show Kd.M (Kd.int .u8) _ _ _ ((wrap64 (48 + (Int.tmod x0_1 10))) % 256) [.int .u8 ((wrap64 (48 + (Int.tmod x0_1 10))) % 256)] from rfl) (Reps.none _ _))); intro v138 w5 ho6 hb hg_ hnew_; clear hg_ hnew_; (first | rw [← Ny137.out] at ho6 | (simp only [Int.reduceToNat] at ho6; rw [← Ny137.out] at ho6)); have HO139 := Aside0.mk (Kd.R_lower ho6 (below_size oB)); replace HB := Aside0.mk (below_step oB hb); clear hb ho6; have hcv7 := own_string (P := Tryd.prog) Tryd.underlying29 Tryd.underlying5 Tryd.underlying9 (Kd.own_of_R HO139.out)))
      go_roundg k1
      case measure => have := HK1.out; omega
      case rel => exact ⟨(wrap64 (Int.tdiv x0_1 10)), ((strOfNums y137) ++ x3_1), oS, oS, H', ⟨by have := HK1.out; omega⟩, ⟨oB⟩⟩
     ·rw [if_neg c4] at H
      exact absurd H (by simp)
    ·by_cases c8 : 1 + x3_1.size ≤ 9223372036854775807
     ·rw [if_pos c8] at H
      have c8b0 := eq_true c8
      have c8b1 : decide (1 + x3_1.size ≤ 9223372036854775807) = true := decide_eq_true c8
      try have c8b2 : (9223372036854775807 < 1 + x3_1.size) = False := eq_false (Nat.not_lt.2 c8)
      obtain rfl := Option.some.inj H
      go_wp2
      go_ret
      exact ⟨oE, oB⟩
     ·rw [if_neg c8] at H
      exact absurd H (by simp)

/-! ### laws_markStringS: function 19 -/
def laws_markStringS.l0 : Nat → List ByteArray → Int → Int → Option (Int × List ByteArray)
 | 0, _, _, _ => none
 | k + 1, x0, x1, x5 => if x5 < (x0.length : Int) then ((laws_markText.f k x1).bind fun t140 => (if 0 ≤ x5 then (laws_markStringS.l0 k (x0.set (x5 : Int).toNat t140) (wrap64 (x1 + 1)) (wrap64 (x5 + 1))) else (none))) else (some (x1, x0))
def laws_markStringS.f (k : Nat) (l0 : List ByteArray) (a1 : Int) : Option (Int × List ByteArray) := laws_markStringS.l0 k l0 a1 0
set_option maxHeartbeats 8000000 in
set_option maxRecDepth 100000 in
theorem laws_markStringS.calls (k : Nat) (P0_ : Nat → Prop) (u9000_ : Value) (l0 : List ByteArray) (a1 : Int) (r1 : Int) (r2 : List ByteArray) (w0 w : World) (hB : Below w0.heap.size w0 w) (ho0 : Kd.R Kd.string 9 w w0.heap.size P0_ u9000_ l0) (h : laws_markStringS.f k l0 a1 = some (r1, r2)) :
  Calls Tryd.prog 19 #[u9000_, .int .i64 a1] w fun e w' => e = .returned (.int .i64 r1) ∧ Kd.R Kd.string 9 w' w0.heap.size (fun k_ => (P0_ k_ ∨ w.heap.size ≤ k_)) u9000_ r2 ∧ Below w0.heap.size w0 w' ∧ Kept w w' (fun k_ => P0_ k_) := by
 have HO0 := Aside0.mk (show Kd.R Kd.string 9 w w0.heap.size (fun k_ => (P0_ k_ ∨ w.heap.size ≤ k_)) u9000_ l0 from Kd.R_mono ho0 (fun k_ hk => (.inl hk)))
 have HK := Aside0.mk (Kept.refl w (fun k_ => P0_ k_))
 have HW0 := Aside0.mk hB.size
 have HB := Aside0.mk hB
 clear hB
 unfold laws_markStringS.f at h
 have H := h
 clear h
 have H' := Aside0.mk H
 clear H
 go_enter Tryd.func19, Tryd.ntmps19
 go_wp2
 go_loopg [1, 5] k (fun kq v1 v5 w' => ∃ (x0_1 : List ByteArray) (x1_1 : Int) (x5_1 : Int), v1 = .int .i64 x1_1 ∧ v5 = .int .i64 x5_1 ∧ Aside0 (laws_markStringS.l0 kq x0_1 x1_1 x5_1 = some (r1, r2)) ∧ Aside0 (kq ≤ k) ∧ Aside0 (Kd.R Kd.string 9 w' w0.heap.size (fun k_ => (P0_ k_ ∨ w.heap.size ≤ k_)) u9000_ x0_1) ∧ Aside0 (Kept w w' (fun k_ => P0_ k_)) ∧ Aside0 (Below w0.heap.size w0 w'))
 case atStart => exact ⟨(l0), (a1), (0), oS, oS, H', ⟨Nat.le_refl _⟩, ⟨oR HO0⟩, ⟨oK⟩, ⟨oB⟩⟩
 case round =>
  clear H'
  obtain ⟨x0_1, x1_1, x5_1, rfl, rfl, HA, HK1, HO_0, HK, HB⟩ := hrel
  cases gk with
  | zero => exact absurd HA.out (by simp [laws_markStringS.l0])
  | succ k1 =>
   have H := HA.out
   clear HA
   simp only [laws_markStringS.l0] at H
   replace H := itD H
   rcases H with ⟨c3b0, H⟩ | ⟨c3b0, H⟩
   ·replace H := bA H
    obtain ⟨t140, A4, H⟩ := H
    try dsimp only at H
    replace H := itD H
    rcases H with ⟨c5b0, H⟩ | ⟨c5b0, H⟩
    ·obtain ⟨y141, hy141⟩ : ∃ y_ : List ByteArray, y_ = (x0_1.set (x5_1 : Int).toNat t140) := ⟨_, rfl⟩
     replace H : (laws_markStringS.l0 k1 y141 (wrap64 (x1_1 + 1)) (wrap64 (x5_1 + 1))) = some (r1, r2) := by first | (rw [hy141]; with_reducible exact H) | (have H2_ := (Option.bind_some _ _).symm.trans H; rw [hy141]; with_reducible exact H2_) | (have H2_ := (Option.bind_some _ _).symm.trans H; with_reducible exact H2_) | with_reducible exact H | (rw [hy141]; exact H) | exact H
     have Ny141 := Aside0.mk hy141
     clear hy141
     have H' := Aside0.mk H
     clear H
     obtain ⟨Ao7, co7, eo7⟩ := Kd.R_slice HO_0.out
     subst eo7
     go_wp2_with (first | ((with_reducible refine gate_callee (f := 56) rfl ?_); refine gl_ 15 Tryd.func56 (laws_markText.calls k1 x1_1 t140 _ A4.out) ?_; rintro e w8 ⟨rfl, hb⟩; refine ⟨_, rfl, ?_⟩; replace HO_0 := kr_ HO_0 hb; replace HK := Aside0.mk (Kept.below (S := (fun k_ => P0_ k_)) oK hb); replace HB := Aside0.mk (below_step oB hb); have p6 : 0 ≤ (x5_1 : Int) := oa; have q6 : (x5_1 : Int) < ((x0_1.length : Int) : Int) := oa; obtain ⟨go6, co6, eo6, gb6, gl6, cl6, HG6⟩ := Kd.R_form HO_0.out (by omega); (first | cases eo6 | (injection eo6 with ea_ en_ ec_; (first | subst ea_ | (injection ea_ with ea_; subst ea_)); subst ec_; clear en_)); have GB6 := Aside0.mk gb6; have GG6 := Aside0.mk HG6; clear gb6 gl6 HG6; have HMgo6 := Aside0.mk (show (P0_ go6 ∨ w.heap.size ≤ go6) from (HO_0.out.1 _ rfl)); obtain ⟨hx6_0, hf6_0⟩ := Kd.R_celln (⟨#[]⟩ : ByteArray) HO_0.out (x5_1 : Int) p6 q6; replace p6 := eq_true p6; replace q6 := eq_true q6; obtain ⟨hy9_, hz9_⟩ := Kd.R_celln (⟨#[]⟩ : ByteArray) HO_0.out (x5_1 : Int) oa oa; have HP9 := Kd.R_putg HO_0.out (x5_1 : Int) t140) | ((with_reducible refine gate_store (t := 9) (p := 16) rfl ?_); refine store_event (t := 9) (p := 16) (v := ?vo_w10) (w1 := (w8.setCell ⟨go6, (x5_1 : Int).toNat, none⟩ (.string t140))) ?hg ?ho ?hn ?hr ?_; (case ho => rfl); (case hg => rfl); (case hn => rfl); (case hr => first | (go_simp; done) | (go_simp; rfl)); intro w10 hw; have hg : w8.grownBy w10 (some go6) := (by rw [hw]; exact HP9.2); have hp_ : Kd.R Kd.string 9 w10 w0.heap.size (fun k_ => (P0_ k_ ∨ w.heap.size ≤ k_)) (.slice (some ⟨go6, 0, none⟩) x0_1.length co7) y141 := (by rw [hw, Ny141.out]; exact HP9.1); clear HP9; replace HO_0 := Aside0.mk (hp_); replace HK := Aside0.mk (Kept.of_grown (S := (fun k_ => P0_ k_)) hg oK (fun k_ e_ => (HO_0.out.1 k_ e_))); replace HB := Aside0.mk ((by rw [hw]; exact below_set (HB.out) GB6.out : Below w0.heap.size w0 w10)); clear hg hw hp_))
     go_roundg k1
     case measure => have := HK1.out; omega
     case rel => exact ⟨(y141), (wrap64 (x1_1 + 1)), (wrap64 (x5_1 + 1)), oS, oS, H', ⟨by have := HK1.out; omega⟩, ⟨oR HO_0⟩, ⟨oK⟩, ⟨oB⟩⟩
    ·cases H
   ·simp only [Option.some.injEq, Prod.mk.injEq] at H
    obtain ⟨rfl, rfl⟩ := H
    obtain ⟨Ao11, co11, eo11⟩ := Kd.R_slice HO_0.out
    subst eo11
    go_wp2
    go_ret
    exact ⟨oE, oR HO_0, oB, oK⟩

/-! ### laws_heldStringS: function 20 -/
def laws_heldStringS.l0 : Nat → List ByteArray → Int → Int → Option (Int)
 | 0, _, _, _ => none
 | k + 1, x0, x1, x5 => if x5 < (x0.length : Int) then (if 0 ≤ x5 then ((laws_markText.f k x1).bind fun t143 => (if (rdOf ByteArray.empty x0 x5).toList = t143.toList then (laws_heldStringS.l0 k x0 (wrap64 (x1 + 1)) (wrap64 (x5 + 1))) else (some (-1)))) else (none)) else (some x1)
def laws_heldStringS.f (k : Nat) (l0 : List ByteArray) (a1 : Int) : Option (Int) := laws_heldStringS.l0 k l0 a1 0
set_option maxHeartbeats 8000000 in
set_option maxRecDepth 100000 in
theorem laws_heldStringS.calls (k : Nat) (A0 : Option Addr) (c0 : Nat) (l0 : List ByteArray) (a1 : Int) (r : Int) (w : World) (hr0 : Kd.C Kd.string w A0 l0.length l0) (hc0 : l0.length ≤ c0) (h : laws_heldStringS.f k l0 a1 = some r) :
  Calls Tryd.prog 20 #[.slice A0 l0.length c0, .int .i64 a1] w fun e w' => e = .returned (.int .i64 r) ∧ Below w.heap.size w w' := by
 have HR0 := Aside0.mk hr0
 have HC0 := Aside0.mk hc0
 clear hr0 hc0
 have HB := Aside0.mk (Below.refl w.heap.size w)
 unfold laws_heldStringS.f at h
 have H := h
 clear h
 have H' := Aside0.mk H
 clear H
 go_enter Tryd.func20, Tryd.ntmps20
 go_wp2
 go_loopg [1, 5] k (fun kq v1 v5 w' => ∃ (x1_1 : Int) (x5_1 : Int), v1 = .int .i64 x1_1 ∧ v5 = .int .i64 x5_1 ∧ Aside0 (laws_heldStringS.l0 kq l0 x1_1 x5_1 = some r) ∧ Aside0 (kq ≤ k) ∧ Aside0 (Below w.heap.size w w'))
 case atStart => exact ⟨(a1), (0), oS, oS, H', ⟨Nat.le_refl _⟩, ⟨oB⟩⟩
 case round =>
  clear H'
  obtain ⟨x1_1, x5_1, rfl, rfl, HA, HK1, HB⟩ := hrel
  cases gk with
  | zero => exact absurd HA.out (by simp [laws_heldStringS.l0])
  | succ k1 =>
   have H := HA.out
   clear HA
   simp only [laws_heldStringS.l0] at H
   replace H := itD H
   rcases H with ⟨c3b0, H⟩ | ⟨c3b0, H⟩
   ·replace H := itD H
    rcases H with ⟨c4b0, H⟩ | ⟨c4b0, H⟩
    ·replace H := bA H
     obtain ⟨t143, A5, H⟩ := H
     try dsimp only at H
     by_cases c6 : (rdOf ByteArray.empty l0 x5_1).toList = t143.toList
     ·rw [if_pos c6] at H
      have c6b0 : ((rdOf ByteArray.empty l0 x5_1).toList == t143.toList) = true := beq_iff_eq.mpr c6
      have c6b1 : ((rdOf ByteArray.empty l0 x5_1).toList != t143.toList) = false := bne_eq_false_iff_eq.mpr c6
      clear c6
      have H' := Aside0.mk H
      clear H
      try go_wp2
      replace HB := Aside0.mk (below_drew1 HB.out)
      have p142 : (0 ≤ (x5_1 : Int)) = True := oT
      have q142 : (x5_1 < (l0.length : Int)) = True := oT
      obtain ⟨ad142, e142, hx142_0⟩ := Kd.at_string HR0.out x5_1 oa oa
      have hw142_0 := hx142_0
      cases e142
      replace hx142_0 := cB HB hx142_0
      refine start_ (n := 7) (S := fun w' => w'.cell? (ad142.add (x5_1).toNat) = some (.string (rdOf ByteArray.empty l0 x5_1))) (ds := []) #[false, false, false, false, false, false, false] (by kernel_rfl) rfl rfl ((cB HB hw142_0)) (fun hHeld => ?_)
      generalize wr.drew = w7 at HB hx142_0 hHeld ⊢
      refine pure_ (i := 0) (N := some 12) (v := ?_) (a' := ?_) #[true, false, false, false, false, false, false] rfl rfl (by kernel_rfl) (fun _ _ _ h => h) (Or.inl ⟨by rfl, ?_⟩) ?_ ?_
      rotate_left
      ·intro w'
       go_simp
       with_reducible rfl
      rotate_left
      ·simp only [Act.put, List.setIfInBounds_toArray, List.set_cons_zero, List.set_cons_succ, i64_w, i32_w]
       rfl
      refine pure_ (i := 1) (N := some 13) (v := ?_) (a' := ?_) #[true, true, false, false, false, false, false] rfl rfl (by kernel_rfl) (fun _ _ _ h => h) (Or.inl ⟨by rfl, ?_⟩) ?_ ?_
      rotate_left
      ·intro w'
       go_simp
       with_reducible rfl
      rotate_left
      ·simp only [Act.put, List.setIfInBounds_toArray, List.set_cons_zero, List.set_cons_succ, i64_w, i32_w]
       rfl
      refine pure_ (i := 2) (N := some 14) (v := ?_) (a' := ?_) #[true, true, true, false, false, false, false] rfl rfl (by kernel_rfl) (fun _ _ _ h => h) (Or.inl ⟨by rfl, ?_⟩) ?_ ?_
      rotate_left
      ·intro w'
       go_simp
       with_reducible rfl
      rotate_left
      ·simp only [Act.put, List.setIfInBounds_toArray, List.set_cons_zero, List.set_cons_succ, i64_w, i32_w]
       rfl
      refine pure_ (i := 4) (N := some 16) (v := ?_) (a' := ?_) #[true, true, true, false, true, false, false] rfl rfl (by kernel_rfl) (fun _ _ _ h => h) (Or.inl ⟨by rfl, ?_⟩) ?_ ?_
      rotate_left
      ·intro w'
       go_simp
       with_reducible rfl
      rotate_left
      ·simp only [Act.put, List.setIfInBounds_toArray, List.set_cons_zero, List.set_cons_succ, i64_w, i32_w]
       rfl
      refine take_ (i := 3) (N := some 15) (v := ?_) (a' := ?_) #[true, true, true, true, true, false, false] rfl rfl (by kernel_rfl) (fun _ _ _ h => h) (Or.inl ⟨by rfl, ?_⟩) hHeld ?_ ?_
      rotate_left
      ·intro w' s0
       go_simp
       with_reducible rfl
      rotate_left
      ·simp only [Act.put, List.setIfInBounds_toArray, List.set_cons_zero, List.set_cons_succ, i64_w, i32_w]
       rfl
      refine one_ (i := 5) (N := some 17) #[true, true, true, true, true, true, false] rfl rfl (by kernel_rfl) (by decide) (fun K hK => ?_)
      refine gr_ 17 Tryd.func56 (laws_markText.calls k1 x1_1 t143 _ A5.out) ?_
      rintro e w8 ⟨rfl, hb⟩
      refine ⟨_, rfl, ?_⟩
      replace HB := Aside0.mk (below_step oB hb)
      refine hK.out _ _ ((cB HB hw142_0)) (fun hHeld => ?_)
      clear hK K
      refine norm_ (a' := ?_) ?_ ?_
      rotate_left
      ·show Act.put _ (some 17) _ = _
       simp only [Act.put, List.setIfInBounds_toArray, List.set_cons_zero, List.set_cons_succ, i64_w, i32_w]
       rfl
      refine pure_ (i := 6) (N := some 18) (v := ?_) (a' := ?_) #[true, true, true, true, true, true, true] rfl rfl (by kernel_rfl) (fun _ _ _ h => h) (Or.inl ⟨by rfl, ?_⟩) ?_ ?_
      rotate_left
      ·intro w'
       go_simp
       with_reducible rfl
      rotate_left
      ·simp only [Act.put, List.setIfInBounds_toArray, List.set_cons_zero, List.set_cons_succ, i64_w, i32_w]
       rfl
      refine done_ (by kernel_rfl) ?_
      try go_wp2
      go_roundg k1
      case measure => have := HK1.out; omega
      case rel => exact ⟨(wrap64 (x1_1 + 1)), (wrap64 (x5_1 + 1)), oS, oS, H', ⟨by have := HK1.out; omega⟩, ⟨oB⟩⟩
     ·rw [if_neg c6] at H
      have c6b0 : ((rdOf ByteArray.empty l0 x5_1).toList == t143.toList) = false := beq_eq_false_iff_ne.mpr c6
      have c6b1 : ((rdOf ByteArray.empty l0 x5_1).toList != t143.toList) = true := bne_iff_ne.mpr c6
      obtain rfl := Option.some.inj H
      try go_wp2
      replace HB := Aside0.mk (below_drew1 HB.out)
      have p142 : (0 ≤ (x5_1 : Int)) = True := oT
      have q142 : (x5_1 < (l0.length : Int)) = True := oT
      obtain ⟨ad142, e142, hx142_0⟩ := Kd.at_string HR0.out x5_1 oa oa
      have hw142_0 := hx142_0
      cases e142
      replace hx142_0 := cB HB hx142_0
      refine start_ (n := 7) (S := fun w' => w'.cell? (ad142.add (x5_1).toNat) = some (.string (rdOf ByteArray.empty l0 x5_1))) (ds := []) #[false, false, false, false, false, false, false] (by kernel_rfl) rfl rfl ((cB HB hw142_0)) (fun hHeld => ?_)
      generalize wr.drew = w9 at HB hx142_0 hHeld ⊢
      refine pure_ (i := 0) (N := some 12) (v := ?_) (a' := ?_) #[true, false, false, false, false, false, false] rfl rfl (by kernel_rfl) (fun _ _ _ h => h) (Or.inl ⟨by rfl, ?_⟩) ?_ ?_
      rotate_left
      ·intro w'
       go_simp
       with_reducible rfl
      rotate_left
      ·simp only [Act.put, List.setIfInBounds_toArray, List.set_cons_zero, List.set_cons_succ, i64_w, i32_w]
       rfl
      refine pure_ (i := 1) (N := some 13) (v := ?_) (a' := ?_) #[true, true, false, false, false, false, false] rfl rfl (by kernel_rfl) (fun _ _ _ h => h) (Or.inl ⟨by rfl, ?_⟩) ?_ ?_
      rotate_left
      ·intro w'
       go_simp
       with_reducible rfl
      rotate_left
      ·simp only [Act.put, List.setIfInBounds_toArray, List.set_cons_zero, List.set_cons_succ, i64_w, i32_w]
       rfl
      refine pure_ (i := 2) (N := some 14) (v := ?_) (a' := ?_) #[true, true, true, false, false, false, false] rfl rfl (by kernel_rfl) (fun _ _ _ h => h) (Or.inl ⟨by rfl, ?_⟩) ?_ ?_
      rotate_left
      ·intro w'
       go_simp
       with_reducible rfl
      rotate_left
      ·simp only [Act.put, List.setIfInBounds_toArray, List.set_cons_zero, List.set_cons_succ, i64_w, i32_w]
       rfl
      refine pure_ (i := 4) (N := some 16) (v := ?_) (a' := ?_) #[true, true, true, false, true, false, false] rfl rfl (by kernel_rfl) (fun _ _ _ h => h) (Or.inl ⟨by rfl, ?_⟩) ?_ ?_
      rotate_left
      ·intro w'
       go_simp
       with_reducible rfl
      rotate_left
      ·simp only [Act.put, List.setIfInBounds_toArray, List.set_cons_zero, List.set_cons_succ, i64_w, i32_w]
       rfl
      refine take_ (i := 3) (N := some 15) (v := ?_) (a' := ?_) #[true, true, true, true, true, false, false] rfl rfl (by kernel_rfl) (fun _ _ _ h => h) (Or.inl ⟨by rfl, ?_⟩) hHeld ?_ ?_
      rotate_left
      ·intro w' s0
       go_simp
       with_reducible rfl
      rotate_left
      ·simp only [Act.put, List.setIfInBounds_toArray, List.set_cons_zero, List.set_cons_succ, i64_w, i32_w]
       rfl
      refine one_ (i := 5) (N := some 17) #[true, true, true, true, true, true, false] rfl rfl (by kernel_rfl) (by decide) (fun K hK => ?_)
      refine gr_ 17 Tryd.func56 (laws_markText.calls k1 x1_1 t143 _ A5.out) ?_
      rintro e w10 ⟨rfl, hb⟩
      refine ⟨_, rfl, ?_⟩
      replace HB := Aside0.mk (below_step oB hb)
      refine hK.out _ _ ((cB HB hw142_0)) (fun hHeld => ?_)
      clear hK K
      refine norm_ (a' := ?_) ?_ ?_
      rotate_left
      ·show Act.put _ (some 17) _ = _
       simp only [Act.put, List.setIfInBounds_toArray, List.set_cons_zero, List.set_cons_succ, i64_w, i32_w]
       rfl
      refine pure_ (i := 6) (N := some 18) (v := ?_) (a' := ?_) #[true, true, true, true, true, true, true] rfl rfl (by kernel_rfl) (fun _ _ _ h => h) (Or.inl ⟨by rfl, ?_⟩) ?_ ?_
      rotate_left
      ·intro w'
       go_simp
       with_reducible rfl
      rotate_left
      ·simp only [Act.put, List.setIfInBounds_toArray, List.set_cons_zero, List.set_cons_succ, i64_w, i32_w]
       rfl
      refine done_ (by kernel_rfl) ?_
      try go_wp2
      go_ret
      exact ⟨oE, oB⟩
    ·cases H
   ·obtain rfl := Option.some.inj H
    go_wp2
    go_ret
    exact ⟨oE, oB⟩

/-! ### laws_FnExactSplitPath: function 4 -/
set_option maxHeartbeats 8000000 in
set_option maxRecDepth 100000 in
theorem markQ.calls (k : Nat) (P0_ : Nat → Prop) (u9000_ : Value) (l0 : List ByteArray) (a1 : Int) (r1 : Int) (r2 : List ByteArray) (w0 w : World) (hB : Below w0.heap.size w0 w) (ho0 : Kd.Q Kd.string 9 w w0.heap.size P0_ u9000_ l0) (h : laws_markStringS.f k l0 a1 = some (r1, r2)) :
  Calls Tryd.prog 19 #[u9000_, .int .i64 a1] w fun e w' => e = .returned (.int .i64 r1) ∧ Kd.Q Kd.string 9 w' w0.heap.size (fun k_ => (P0_ k_ ∨ w.heap.size ≤ k_)) u9000_ r2 ∧ Below w0.heap.size w0 w' ∧ Kept w w' (fun k_ => P0_ k_) := by
 have HO0 := Aside0.mk (show Kd.Q Kd.string 9 w w0.heap.size (fun k_ => (P0_ k_ ∨ w.heap.size ≤ k_)) u9000_ l0 from Kd.Q_mono ho0 (fun k_ hk => (.inl hk)))
 have HK := Aside0.mk (Kept.refl w (fun k_ => P0_ k_))
 have HW0 := Aside0.mk hB.size
 have HB := Aside0.mk hB
 clear hB ho0
 unfold laws_markStringS.f at h
 have H' := Aside0.mk h
 clear h
 go_enter Tryd.func19, Tryd.ntmps19
 go_wp2
 go_loopg [1, 5] k (fun kq v1 v5 w' => ∃ (x0_1 : List ByteArray) (x1_1 : Int) (x5_1 : Int), v1 = .int .i64 x1_1 ∧ v5 = .int .i64 x5_1 ∧ Aside0 (laws_markStringS.l0 kq x0_1 x1_1 x5_1 = some (r1, r2)) ∧ Aside0 (kq ≤ k) ∧ Aside0 (Kd.Q Kd.string 9 w' w0.heap.size (fun k_ => (P0_ k_ ∨ w.heap.size ≤ k_)) u9000_ x0_1) ∧ Aside0 (Kept w w' (fun k_ => P0_ k_)) ∧ Aside0 (Below w0.heap.size w0 w'))
 case atStart => exact ⟨l0, a1, 0, rfl, rfl, H', ⟨Nat.le_refl _⟩, HO0, HK, HB⟩
 case round =>
  clear H' HO0
  obtain ⟨x0_1, x1_1, x5_1, rfl, rfl, HA, HK1, HO_0, HK, HB⟩ := hrel
  cases gk with
  | zero => exact absurd HA.out (by simp [laws_markStringS.l0])
  | succ k1 =>
   have H := HA.out
   clear HA
   simp only [laws_markStringS.l0] at H
   replace H := itD H
   rcases H with ⟨c3b0, H⟩ | ⟨c3b0, H⟩
   ·replace H := bA H
    obtain ⟨t140, A4, H⟩ := H
    replace H := itD H
    rcases H with ⟨c5b0, H⟩ | ⟨c5b0, H⟩
    ·have H' := Aside0.mk H
     clear H
     have hlt : x5_1 < (x0_1.length : Int) := of_decide_eq_true c3b0
     have h0 : 0 ≤ x5_1 := of_decide_eq_true c5b0
     obtain ⟨go6, oo6, co6, eo6, gb6, gl6, cl6, HG6⟩ := Kd.Q_form HO_0.out (by omega)
     cases eo6
     have GB6 := Aside0.mk gb6
     have HM6 := Aside0.mk (show (P0_ go6 ∨ w.heap.size ≤ go6) from HO_0.out.1 _ rfl)
     clear gb6 gl6 HG6
     go_wp2_with (first
      | ((with_reducible refine gate_callee (f := 56) rfl ?_); refine gl_ 15 Tryd.func56 (laws_markText.calls k1 x1_1 t140 _ A4.out) ?_; rintro e w8 ⟨rfl, hb⟩; refine ⟨_, rfl, ?_⟩; replace HO_0 := Aside0.mk (Kd.Q_below (by (with_reducible repeat (first | apply Kd.Q_alloc | apply Kd.Q_drewN | apply Kd.Q_drew)); exact HO_0.out) hb); replace HK := Aside0.mk (Kept.below (S := (fun k_ => P0_ k_)) oK hb); replace HB := Aside0.mk (below_step oB hb); have p6 : 0 ≤ (x5_1 : Int) := oa; have q6 : (x5_1 : Int) < ((x0_1.length : Int) : Int) := oa; obtain ⟨hx6, hf6⟩ := Kd.Q_cell (⟨#[]⟩ : ByteArray) HO_0.out x5_1 p6 q6; have ha6 := add_at go6 oo6 x5_1.toNat; have HP9 := Kd.Q_putg HO_0.out x5_1 p6 q6 t140; replace p6 := eq_true p6; replace q6 := eq_true q6)
      | ((with_reducible refine gate_store (t := 9) (p := 16) rfl ?_); refine store_event (t := 9) (p := 16) (v := ?vo_w10) (w1 := (w8.setCell ⟨go6, oo6 + (x5_1 : Int).toNat, none⟩ (.string t140))) ?hg ?ho ?hn ?hr ?_; (case ho => rfl); (case hg => rfl); (case hn => rfl); (case hr => first | (go_simp; done) | (go_simp; rfl)); intro w10 hw; have hg : w8.grownBy w10 (some go6) := (by rw [hw]; exact HP9.2); have hp_ : Kd.Q Kd.string 9 w10 w0.heap.size (fun k_ => (P0_ k_ ∨ w.heap.size ≤ k_)) (.slice (some ⟨go6, oo6, none⟩) x0_1.length co6) (x0_1.set x5_1.toNat t140) := (by rw [hw]; exact HP9.1); clear HP9; replace HO_0 := Aside0.mk hp_; replace HK := Aside0.mk (Kept.of_grown (S := (fun k_ => P0_ k_)) hg oK (fun k_ e_ => (HO_0.out.1 k_ e_))); replace HB := Aside0.mk ((by rw [hw]; exact below_set (HB.out) GB6.out : Below w0.heap.size w0 w10)); clear hg hw hp_))
     go_roundg k1
     case measure => have := HK1.out; omega
     case rel => exact ⟨_, (wrap64 (x1_1 + 1)), (wrap64 (x5_1 + 1)), oS, oS, H', ⟨by have := HK1.out; omega⟩, ⟨by (with_reducible repeat (first | apply Kd.Q_alloc | apply Kd.Q_drewN | apply Kd.Q_drew)); exact HO_0.out⟩, ⟨oK⟩, ⟨oB⟩⟩
    ·cases H
   ·simp only [Option.some.injEq, Prod.mk.injEq] at H
    obtain ⟨rfl, rfl⟩ := H
    obtain ⟨Ao11, co11, eo11, _⟩ := Kd.Q_slice HO_0.out
    subst eo11
    go_wp2
    go_ret
    exact ⟨oE, by (with_reducible repeat (first | apply Kd.Q_alloc | apply Kd.Q_drewN | apply Kd.Q_drew)); exact HO_0.out, oB, oK⟩
theorem laws_heldStringS.calls' (k : Nat) (A0 : Option Addr) (c0 n : Nat) (l0 : List ByteArray) (a1 r : Int) (w : World) (hn : l0.length = n) (hr0 : Kd.C Kd.string w A0 l0.length l0) (hc0 : l0.length ≤ c0) (h : laws_heldStringS.f k l0 a1 = some r) :
  Calls Tryd.prog 20 #[.slice A0 n c0, .int .i64 a1] w fun e w' => e = .returned (.int .i64 r) ∧ Below w.heap.size w w' := by
 subst hn
 exact laws_heldStringS.calls k A0 c0 l0 a1 r w hr0 hc0 h
def laws_FnExactSplitPath.f (k : Nat) (a0 : ByteArray) : Option Bool := if (a0.size : Int) > 1048576 then some true else
 (spec_SplitPath.f k a0).bind fun p => (impl_SplitPath.f k a0).bind fun s => (laws_eqStringS.f k s.1 p.1).bind fun e1 =>
 (laws_markStringS.f k s.1 1).bind fun m => (laws_heldStringS.f k m.2 1).bind fun q =>
 if s.2 = p.2 ∧ e1 = true ∧ ¬ q < 0 ∧ q = m.1 ∧ m.2.length = s.1.length then some true else none
set_option maxHeartbeats 8000000 in
set_option maxRecDepth 100000 in
theorem laws_FnExactSplitPath.calls (k : Nat) (a0 : ByteArray) (r : Bool) (w : World) (h : laws_FnExactSplitPath.f k a0 = some r) (hG : GOk w := by exact gk_ oB (by first | (with_reducible assumption) | assumption)) :
  Calls Tryd.prog 4 #[.string a0] w fun e w' => e = .returned (.bool r) ∧ Below w.heap.size w w' := by
 have HG := Aside0.mk hG
 clear hG
 have HB := Aside0.mk (Below.refl w.heap.size w)
 unfold laws_FnExactSplitPath.f at h
 split at h
 case isTrue hg =>
  have cg : decide ((a0.size : Int) > 1048576) = true := decide_eq_true hg
  have dg : decide (1048576 < (a0.size : Int)) = true := decide_eq_true (by omega)
  obtain rfl := Option.some.inj h
  clear h hg
  go_enter Tryd.func4, Tryd.ntmps4
  go_wp2
  go_ret
  exact ⟨rfl, oB⟩
 case isFalse hg =>
 have cg : decide ((a0.size : Int) > 1048576) = false := decide_eq_false hg
 have dg : decide (1048576 < (a0.size : Int)) = false := decide_eq_false (by omega)
 clear hg
 replace h := bA h
 obtain ⟨⟨p1, p2⟩, H3, h⟩ := h
 replace h := bA h
 obtain ⟨⟨s1, s2⟩, H4, h⟩ := h
 replace h := bA h
 obtain ⟨e1, H5, h⟩ := h
 replace h := bA h
 obtain ⟨⟨mk, mg⟩, H8, h⟩ := h
 replace h := bA h
 obtain ⟨q, H9, h⟩ := h
 split at h
 case isFalse => cases h
 case isTrue hh =>
 try dsimp only at hh
 obtain ⟨rfl, rfl, hq, rfl, l4⟩ := hh
 obtain rfl := Option.some.inj h
 clear h
 have cq : decide (q < 0) = false := decide_eq_false hq
 clear hq
 have L4 := Aside0.mk l4
 clear l4
 try dsimp only at H3 H4 H5 H8 H9 L4
 go_enter Tryd.func4, Tryd.ntmps4
 go_wp2_with fail
 refine (spec_SplitPath.calls k a0 p1 s2 _ H3.out).mono ?_
 rintro e w1 ⟨v_w0, rfl, h_w0, hb⟩
 obtain ⟨A_w0, c_w0, rfl⟩ := Kd.R_slice h_w0
 have S_w0 := riv' h_w0 (w.heap.size) w.heap.size (by simp) (below_size oB)
 clear h_w0
 have n1 : w.heap.size ≤ w1.heap.size := by have := hb.size; simpa using this
 replace HB := Aside0.mk (below_step oB hb)
 clear hb
 go_wp2_with fail
 refine (impl_SplitPath.calls k a0 s1 s2 _ H4.out).mono ?_
 rintro e w2 ⟨v_g0, rfl, h_g0, hb⟩
 obtain ⟨A_g0, c_g0, rfl, _⟩ := Kd.Q_slice h_g0
 have S_g0 := qiv' h_g0 (w1.heap.size) w.heap.size (by simp) (below_size oB)
 clear h_g0
 have n2 : w1.heap.size ≤ w2.heap.size := by have := hb.size; simpa using this
 replace S_w0 := rb S_w0 hb
 replace HB := Aside0.mk (below_step oB hb)
 clear hb
 go_wp2_with fail
 refine (laws_eqStringS.calls k _ _ s1 _ _ p1 true _ (qO S_g0) (rlQ S_g0) (kO S_w0) (rlR S_w0) H5.out).mono ?_
 rintro e w3 ⟨rfl, hb⟩
 replace hb := Drawn0.below hb
 have n3 : w2.heap.size ≤ w3.heap.size := by have := hb.size; simpa using this
 replace S_w0 := rb S_w0 hb
 replace S_g0 := qb S_g0 hb
 replace HB := Aside0.mk (below_step oB hb)
 clear hb
 go_wp2_with fail
 refine (markQ.calls k _ _ s1 1 q mg w _ HB.out S_g0.out H8.out).mono ?_
 rintro e w4 ⟨rfl, h_g0, hb, hk⟩
 have n4 : w3.heap.size ≤ w4.heap.size := hk.1
 replace S_w0 := rk S_w0 hk (fun q h h' => by omega)
 replace S_g0 := Aside0.mk h_g0
 clear h_g0
 replace HB := Aside0.mk hb
 clear hb hk
 go_wp2_with fail
 refine (laws_heldStringS.calls' k _ _ _ mg 1 q _ L4.out (qO S_g0) (rlQ S_g0) H9.out).mono ?_
 rintro e w5 ⟨rfl, hb⟩
 have n5 : w4.heap.size ≤ w5.heap.size := by have := hb.size; simpa using this
 replace S_w0 := rb S_w0 hb
 replace S_g0 := qb S_g0 hb
 replace HB := Aside0.mk (below_step oB hb)
 clear hb
 go_wp2_with fail
 refine (impl_SplitPath.calls k a0 s1 s2 _ H4.out).mono ?_
 rintro e w6 ⟨v_h0, rfl, h_h0, hb⟩
 obtain ⟨A_h0, c_h0, rfl, _⟩ := Kd.Q_slice h_h0
 have S_h0 := qiv' h_h0 (w5.heap.size) w.heap.size (by simp) (below_size oB)
 clear h_h0
 have n6 : w5.heap.size ≤ w6.heap.size := by have := hb.size; simpa using this
 replace S_w0 := rb S_w0 hb
 replace S_g0 := qb S_g0 hb
 replace HB := Aside0.mk (below_step oB hb)
 clear hb
 go_wp2_with fail
 refine (laws_eqStringS.calls k _ _ s1 _ _ p1 true _ (qO S_h0) (rlQ S_h0) (kO S_w0) (rlR S_w0) H5.out).mono ?_
 rintro e w7 ⟨rfl, hb⟩
 replace hb := Drawn0.below hb
 have n7 : w6.heap.size ≤ w7.heap.size := by have := hb.size; simpa using this
 replace S_w0 := rb S_w0 hb
 replace S_g0 := qb S_g0 hb
 replace S_h0 := qb S_h0 hb
 replace HB := Aside0.mk (below_step oB hb)
 clear hb
 go_wp2_with fail
 refine (laws_heldStringS.calls' k _ _ _ mg 1 q _ L4.out (qO S_g0) (rlQ S_g0) H9.out).mono ?_
 rintro e w8 ⟨rfl, hb⟩
 have n8 : w7.heap.size ≤ w8.heap.size := by have := hb.size; simpa using this
 replace S_w0 := rb S_w0 hb
 replace S_g0 := qb S_g0 hb
 replace S_h0 := qb S_h0 hb
 replace HB := Aside0.mk (below_step oB hb)
 clear hb
 go_wp2_with fail
 go_ret
 exact ⟨rfl, oB⟩
end Go.Proofs.YtkfcmpalbhmmaaaDoor.P
