-- By this session's own program (wip/myprint.py) out of the translation; Lean checks it.
import Derived.Test.YtmndnegpclaidaaPx0
import Derived.Test.YtmndnegpclaidaaPx5
namespace Go.Proofs.Ytmndnegpclaidaa.P
open Go.RowKit Go.Proofs.YtmndnegpclaidaaW.PrintWords Go.Proofs.YtmndnegpclaidaaW.PrintLast Go.Proofs.YtmndnegpclaidaaW.PrintMore
attribute [local go_sem] max2_int min2_int max_two min_two max_three min_three max_four min_four   -- for this text's walks alone
set_option linter.unusedVariables false
set_option linter.unusedSimpArgs false

/-! ### impl_NameOk: function 119 -/
def impl_NameOk.l0 : Nat → ByteArray → Int → Int → Option (Bool)
 | 0, _, _, _ => none
 | k + 1, x0, x6, x7 => if x7 < x6 then (if 0 ≤ x7 then (if x7 < (x0.size : Int) then (if (bt x0 x7) < 97 then (if (bt x0 x7) < 48 then (if (bt x0 x7) = 95 then (impl_NameOk.l0 k x0 x6 (wrap64 (x7 + 1))) else (if (bt x0 x7) = 45 then (impl_NameOk.l0 k x0 x6 (wrap64 (x7 + 1))) else (if (bt x0 x7) = 46 then (impl_NameOk.l0 k x0 x6 (wrap64 (x7 + 1))) else (some false)))) else (if (bt x0 x7) > 57 then (if (bt x0 x7) = 95 then (impl_NameOk.l0 k x0 x6 (wrap64 (x7 + 1))) else (if (bt x0 x7) = 45 then (impl_NameOk.l0 k x0 x6 (wrap64 (x7 + 1))) else (if (bt x0 x7) = 46 then (impl_NameOk.l0 k x0 x6 (wrap64 (x7 + 1))) else (some false)))) else (impl_NameOk.l0 k x0 x6 (wrap64 (x7 + 1))))) else (if (bt x0 x7) > 122 then (if (bt x0 x7) < 48 then (if (bt x0 x7) = 95 then (impl_NameOk.l0 k x0 x6 (wrap64 (x7 + 1))) else (if (bt x0 x7) = 45 then (impl_NameOk.l0 k x0 x6 (wrap64 (x7 + 1))) else (if (bt x0 x7) = 46 then (impl_NameOk.l0 k x0 x6 (wrap64 (x7 + 1))) else (some false)))) else (if (bt x0 x7) > 57 then (if (bt x0 x7) = 95 then (impl_NameOk.l0 k x0 x6 (wrap64 (x7 + 1))) else (if (bt x0 x7) = 45 then (impl_NameOk.l0 k x0 x6 (wrap64 (x7 + 1))) else (if (bt x0 x7) = 46 then (impl_NameOk.l0 k x0 x6 (wrap64 (x7 + 1))) else (some false)))) else (impl_NameOk.l0 k x0 x6 (wrap64 (x7 + 1))))) else (impl_NameOk.l0 k x0 x6 (wrap64 (x7 + 1))))) else (none)) else (none)) else (if (x0.size : Int) ≥ 1 then (if (x0.size : Int) ≤ 14 then (if x0.toList = ([46] : List UInt8) then (some false) else (some (x0.toList != ([46, 46] : List UInt8)))) else (some false)) else (some false))
def impl_NameOk.f (k : Nat) (a0 : ByteArray) : Option (Bool) := impl_NameOk.l0 k a0 (a0.size : Int) 0
set_option maxHeartbeats 8000000 in
set_option maxRecDepth 100000 in
theorem impl_NameOk.calls (k : Nat) (a0 : ByteArray) (r : Bool) (w : World) (h : impl_NameOk.f k a0 = some r) :
  Calls Try.prog 119 #[.string a0] w fun e w' => e = .returned (.bool r) ∧ Drawn0 w w' := by
 unfold impl_NameOk.f at h
 have H := h
 clear h
 have H' := Aside0.mk H
 clear H
 go_enter Try.func119, Try.ntmps119
 go_wp2
 go_loopg [7] k (fun kq v7 w' => ∃ (x7_1 : Int), v7 = .int .i64 x7_1 ∧ Aside0 (impl_NameOk.l0 kq a0 (a0.size : Int) x7_1 = some r) ∧ Aside0 (kq ≤ k) ∧ Drawn0 w w')
 case atStart => exact ⟨(0), oS, H', ⟨Nat.le_refl _⟩, oD⟩
 case round =>
  clear H'
  obtain ⟨x7_1, rfl, HA, HK1, ⟨m1, rfl⟩⟩ := hrel
  cases gk with
  | zero => exact absurd HA.out (by simp [impl_NameOk.l0])
  | succ k1 =>
   have H := HA.out
   clear HA
   simp only [impl_NameOk.l0] at H
   replace H := itD H
   rcases H with ⟨c2b0, H⟩ | ⟨c2b0, H⟩
   ·replace H := itD H
    rcases H with ⟨c3b0, H⟩ | ⟨c3b0, H⟩
    ·replace H := itD H
     rcases H with ⟨c4b0, H⟩ | ⟨c4b0, H⟩
     ·replace H := itD H
      rcases H with ⟨c6b0, H⟩ | ⟨c6b0, H⟩
      ·replace H := itD H
       rcases H with ⟨c7b0, H⟩ | ⟨c7b0, H⟩
       ·by_cases c8 : (bt a0 x7_1) = 95
        ·rw [if_pos c8] at H
         have c8b0 : ((bt a0 x7_1) == 95) = true := beq_iff_eq.mpr c8
         have c8b1 : ((bt a0 x7_1) != 95) = false := bne_eq_false_iff_eq.mpr c8
         clear c8
         have H' := Aside0.mk H
         clear H
         have p5 : (0 ≤ (x7_1 : Int)) = True := oT
         have q5 : (x7_1 < (a0.size : Int)) = True := oT
         have hx5 := bt_at a0 x7_1
         go_wp2
         go_roundg k1
         case measure => have := HK1.out; omega
         case rel => exact ⟨(wrap64 (x7_1 + 1)), oS, H', ⟨by have := HK1.out; omega⟩, oD⟩
        ·rw [if_neg c8] at H
         have c8b0 : ((bt a0 x7_1) == 95) = false := beq_eq_false_iff_ne.mpr c8
         have c8b1 : ((bt a0 x7_1) != 95) = true := bne_iff_ne.mpr c8
         by_cases c9 : (bt a0 x7_1) = 45
         ·rw [if_pos c9] at H
          have c9b0 : ((bt a0 x7_1) == 45) = true := beq_iff_eq.mpr c9
          have c9b1 : ((bt a0 x7_1) != 45) = false := bne_eq_false_iff_eq.mpr c9
          clear c9
          have H' := Aside0.mk H
          clear H
          have p5 : (0 ≤ (x7_1 : Int)) = True := oT
          have q5 : (x7_1 < (a0.size : Int)) = True := oT
          have hx5 := bt_at a0 x7_1
          go_wp2
          go_roundg k1
          case measure => have := HK1.out; omega
          case rel => exact ⟨(wrap64 (x7_1 + 1)), oS, H', ⟨by have := HK1.out; omega⟩, oD⟩
         ·rw [if_neg c9] at H
          have c9b0 : ((bt a0 x7_1) == 45) = false := beq_eq_false_iff_ne.mpr c9
          have c9b1 : ((bt a0 x7_1) != 45) = true := bne_iff_ne.mpr c9
          by_cases c10 : (bt a0 x7_1) = 46
          ·rw [if_pos c10] at H
           have c10b0 : ((bt a0 x7_1) == 46) = true := beq_iff_eq.mpr c10
           have c10b1 : ((bt a0 x7_1) != 46) = false := bne_eq_false_iff_eq.mpr c10
           clear c10
           have H' := Aside0.mk H
           clear H
           have p5 : (0 ≤ (x7_1 : Int)) = True := oT
           have q5 : (x7_1 < (a0.size : Int)) = True := oT
           have hx5 := bt_at a0 x7_1
           go_wp2
           go_roundg k1
           case measure => have := HK1.out; omega
           case rel => exact ⟨(wrap64 (x7_1 + 1)), oS, H', ⟨by have := HK1.out; omega⟩, oD⟩
          ·rw [if_neg c10] at H
           have c10b0 : ((bt a0 x7_1) == 46) = false := beq_eq_false_iff_ne.mpr c10
           have c10b1 : ((bt a0 x7_1) != 46) = true := bne_iff_ne.mpr c10
           obtain rfl := Option.some.inj H
           have p5 : (0 ≤ (x7_1 : Int)) = True := oT
           have q5 : (x7_1 < (a0.size : Int)) = True := oT
           have hx5 := bt_at a0 x7_1
           go_wp2
           go_ret
           exact ⟨oS, oD⟩
       ·replace H := itG H
        rcases H with ⟨c11b0, H⟩ | ⟨c11b0, H⟩
        ·by_cases c12 : (bt a0 x7_1) = 95
         ·rw [if_pos c12] at H
          have c12b0 : ((bt a0 x7_1) == 95) = true := beq_iff_eq.mpr c12
          have c12b1 : ((bt a0 x7_1) != 95) = false := bne_eq_false_iff_eq.mpr c12
          clear c12
          have H' := Aside0.mk H
          clear H
          have p5 : (0 ≤ (x7_1 : Int)) = True := oT
          have q5 : (x7_1 < (a0.size : Int)) = True := oT
          have hx5 := bt_at a0 x7_1
          go_wp2
          go_roundg k1
          case measure => have := HK1.out; omega
          case rel => exact ⟨(wrap64 (x7_1 + 1)), oS, H', ⟨by have := HK1.out; omega⟩, oD⟩
         ·rw [if_neg c12] at H
          have c12b0 : ((bt a0 x7_1) == 95) = false := beq_eq_false_iff_ne.mpr c12
          have c12b1 : ((bt a0 x7_1) != 95) = true := bne_iff_ne.mpr c12
          by_cases c13 : (bt a0 x7_1) = 45
          ·rw [if_pos c13] at H
           have c13b0 : ((bt a0 x7_1) == 45) = true := beq_iff_eq.mpr c13
           have c13b1 : ((bt a0 x7_1) != 45) = false := bne_eq_false_iff_eq.mpr c13
           clear c13
           have H' := Aside0.mk H
           clear H
           have p5 : (0 ≤ (x7_1 : Int)) = True := oT
           have q5 : (x7_1 < (a0.size : Int)) = True := oT
           have hx5 := bt_at a0 x7_1
           go_wp2
           go_roundg k1
           case measure => have := HK1.out; omega
           case rel => exact ⟨(wrap64 (x7_1 + 1)), oS, H', ⟨by have := HK1.out; omega⟩, oD⟩
          ·rw [if_neg c13] at H
           have c13b0 : ((bt a0 x7_1) == 45) = false := beq_eq_false_iff_ne.mpr c13
           have c13b1 : ((bt a0 x7_1) != 45) = true := bne_iff_ne.mpr c13
           by_cases c14 : (bt a0 x7_1) = 46
           ·rw [if_pos c14] at H
            have c14b0 : ((bt a0 x7_1) == 46) = true := beq_iff_eq.mpr c14
            have c14b1 : ((bt a0 x7_1) != 46) = false := bne_eq_false_iff_eq.mpr c14
            clear c14
            have H' := Aside0.mk H
            clear H
            have p5 : (0 ≤ (x7_1 : Int)) = True := oT
            have q5 : (x7_1 < (a0.size : Int)) = True := oT
            have hx5 := bt_at a0 x7_1
            go_wp2
            go_roundg k1
            case measure => have := HK1.out; omega
            case rel => exact ⟨(wrap64 (x7_1 + 1)), oS, H', ⟨by have := HK1.out; omega⟩, oD⟩
           ·rw [if_neg c14] at H
            have c14b0 : ((bt a0 x7_1) == 46) = false := beq_eq_false_iff_ne.mpr c14
            have c14b1 : ((bt a0 x7_1) != 46) = true := bne_iff_ne.mpr c14
            obtain rfl := Option.some.inj H
            have p5 : (0 ≤ (x7_1 : Int)) = True := oT
            have q5 : (x7_1 < (a0.size : Int)) = True := oT
            have hx5 := bt_at a0 x7_1
            go_wp2
            go_ret
            exact ⟨oS, oD⟩
        ·have H' := Aside0.mk H
         clear H
         have p5 : (0 ≤ (x7_1 : Int)) = True := oT
         have q5 : (x7_1 < (a0.size : Int)) = True := oT
         have hx5 := bt_at a0 x7_1
         go_wp2
         go_roundg k1
         case measure => have := HK1.out; omega
         case rel => exact ⟨(wrap64 (x7_1 + 1)), oS, H', ⟨by have := HK1.out; omega⟩, oD⟩
      ·replace H := itG H
       rcases H with ⟨c15b0, H⟩ | ⟨c15b0, H⟩
       ·replace H := itD H
        rcases H with ⟨c16b0, H⟩ | ⟨c16b0, H⟩
        ·by_cases c17 : (bt a0 x7_1) = 95
         ·rw [if_pos c17] at H
          have c17b0 : ((bt a0 x7_1) == 95) = true := beq_iff_eq.mpr c17
          have c17b1 : ((bt a0 x7_1) != 95) = false := bne_eq_false_iff_eq.mpr c17
          clear c17
          have H' := Aside0.mk H
          clear H
          have p5 : (0 ≤ (x7_1 : Int)) = True := oT
          have q5 : (x7_1 < (a0.size : Int)) = True := oT
          have hx5 := bt_at a0 x7_1
          go_wp2
          go_roundg k1
          case measure => have := HK1.out; omega
          case rel => exact ⟨(wrap64 (x7_1 + 1)), oS, H', ⟨by have := HK1.out; omega⟩, oD⟩
         ·rw [if_neg c17] at H
          have c17b0 : ((bt a0 x7_1) == 95) = false := beq_eq_false_iff_ne.mpr c17
          have c17b1 : ((bt a0 x7_1) != 95) = true := bne_iff_ne.mpr c17
          by_cases c18 : (bt a0 x7_1) = 45
          ·rw [if_pos c18] at H
           have c18b0 : ((bt a0 x7_1) == 45) = true := beq_iff_eq.mpr c18
           have c18b1 : ((bt a0 x7_1) != 45) = false := bne_eq_false_iff_eq.mpr c18
           clear c18
           have H' := Aside0.mk H
           clear H
           have p5 : (0 ≤ (x7_1 : Int)) = True := oT
           have q5 : (x7_1 < (a0.size : Int)) = True := oT
           have hx5 := bt_at a0 x7_1
           go_wp2
           go_roundg k1
           case measure => have := HK1.out; omega
           case rel => exact ⟨(wrap64 (x7_1 + 1)), oS, H', ⟨by have := HK1.out; omega⟩, oD⟩
          ·rw [if_neg c18] at H
           have c18b0 : ((bt a0 x7_1) == 45) = false := beq_eq_false_iff_ne.mpr c18
           have c18b1 : ((bt a0 x7_1) != 45) = true := bne_iff_ne.mpr c18
           by_cases c19 : (bt a0 x7_1) = 46
           ·rw [if_pos c19] at H
            have c19b0 : ((bt a0 x7_1) == 46) = true := beq_iff_eq.mpr c19
            have c19b1 : ((bt a0 x7_1) != 46) = false := bne_eq_false_iff_eq.mpr c19
            clear c19
            have H' := Aside0.mk H
            clear H
            have p5 : (0 ≤ (x7_1 : Int)) = True := oT
            have q5 : (x7_1 < (a0.size : Int)) = True := oT
            have hx5 := bt_at a0 x7_1
            go_wp2
            go_roundg k1
            case measure => have := HK1.out; omega
            case rel => exact ⟨(wrap64 (x7_1 + 1)), oS, H', ⟨by have := HK1.out; omega⟩, oD⟩
           ·rw [if_neg c19] at H
            have c19b0 : ((bt a0 x7_1) == 46) = false := beq_eq_false_iff_ne.mpr c19
            have c19b1 : ((bt a0 x7_1) != 46) = true := bne_iff_ne.mpr c19
            obtain rfl := Option.some.inj H
            have p5 : (0 ≤ (x7_1 : Int)) = True := oT
            have q5 : (x7_1 < (a0.size : Int)) = True := oT
            have hx5 := bt_at a0 x7_1
            go_wp2
            go_ret
            exact ⟨oS, oD⟩
        ·replace H := itG H
         rcases H with ⟨c20b0, H⟩ | ⟨c20b0, H⟩
         ·by_cases c21 : (bt a0 x7_1) = 95
          ·rw [if_pos c21] at H
           have c21b0 : ((bt a0 x7_1) == 95) = true := beq_iff_eq.mpr c21
           have c21b1 : ((bt a0 x7_1) != 95) = false := bne_eq_false_iff_eq.mpr c21
           clear c21
           have H' := Aside0.mk H
           clear H
           have p5 : (0 ≤ (x7_1 : Int)) = True := oT
           have q5 : (x7_1 < (a0.size : Int)) = True := oT
           have hx5 := bt_at a0 x7_1
           go_wp2
           go_roundg k1
           case measure => have := HK1.out; omega
           case rel => exact ⟨(wrap64 (x7_1 + 1)), oS, H', ⟨by have := HK1.out; omega⟩, oD⟩
          ·rw [if_neg c21] at H
           have c21b0 : ((bt a0 x7_1) == 95) = false := beq_eq_false_iff_ne.mpr c21
           have c21b1 : ((bt a0 x7_1) != 95) = true := bne_iff_ne.mpr c21
           by_cases c22 : (bt a0 x7_1) = 45
           ·rw [if_pos c22] at H
            have c22b0 : ((bt a0 x7_1) == 45) = true := beq_iff_eq.mpr c22
            have c22b1 : ((bt a0 x7_1) != 45) = false := bne_eq_false_iff_eq.mpr c22
            clear c22
            have H' := Aside0.mk H
            clear H
            have p5 : (0 ≤ (x7_1 : Int)) = True := oT
            have q5 : (x7_1 < (a0.size : Int)) = True := oT
            have hx5 := bt_at a0 x7_1
            go_wp2
            go_roundg k1
            case measure => have := HK1.out; omega
            case rel => exact ⟨(wrap64 (x7_1 + 1)), oS, H', ⟨by have := HK1.out; omega⟩, oD⟩
           ·rw [if_neg c22] at H
            have c22b0 : ((bt a0 x7_1) == 45) = false := beq_eq_false_iff_ne.mpr c22
            have c22b1 : ((bt a0 x7_1) != 45) = true := bne_iff_ne.mpr c22
            by_cases c23 : (bt a0 x7_1) = 46
            ·rw [if_pos c23] at H
             have c23b0 : ((bt a0 x7_1) == 46) = true := beq_iff_eq.mpr c23
             have c23b1 : ((bt a0 x7_1) != 46) = false := bne_eq_false_iff_eq.mpr c23
             clear c23
             have H' := Aside0.mk H
             clear H
             have p5 : (0 ≤ (x7_1 : Int)) = True := oT
             have q5 : (x7_1 < (a0.size : Int)) = True := oT
             have hx5 := bt_at a0 x7_1
             go_wp2
             go_roundg k1
             case measure => have := HK1.out; omega
             case rel => exact ⟨(wrap64 (x7_1 + 1)), oS, H', ⟨by have := HK1.out; omega⟩, oD⟩
            ·rw [if_neg c23] at H
             have c23b0 : ((bt a0 x7_1) == 46) = false := beq_eq_false_iff_ne.mpr c23
             have c23b1 : ((bt a0 x7_1) != 46) = true := bne_iff_ne.mpr c23
             obtain rfl := Option.some.inj H
             have p5 : (0 ≤ (x7_1 : Int)) = True := oT
             have q5 : (x7_1 < (a0.size : Int)) = True := oT
             have hx5 := bt_at a0 x7_1
             go_wp2
             go_ret
             exact ⟨oS, oD⟩
         ·have H' := Aside0.mk H
          clear H
          have p5 : (0 ≤ (x7_1 : Int)) = True := oT
          have q5 : (x7_1 < (a0.size : Int)) = True := oT
          have hx5 := bt_at a0 x7_1
          go_wp2
          go_roundg k1
          case measure => have := HK1.out; omega
          case rel => exact ⟨(wrap64 (x7_1 + 1)), oS, H', ⟨by have := HK1.out; omega⟩, oD⟩
       ·have H' := Aside0.mk H
        clear H
        have p5 : (0 ≤ (x7_1 : Int)) = True := oT
        have q5 : (x7_1 < (a0.size : Int)) = True := oT
        have hx5 := bt_at a0 x7_1
        go_wp2
        go_roundg k1
        case measure => have := HK1.out; omega
        case rel => exact ⟨(wrap64 (x7_1 + 1)), oS, H', ⟨by have := HK1.out; omega⟩, oD⟩
     ·cases H
    ·cases H
   ·by_cases c24 : (a0.size : Int) ≥ 1
    ·rw [if_pos c24] at H
     have c24b0 : decide (1 ≤ (a0.size : Int)) = true := decide_eq_true c24
     have c24b1 : decide (1 ≤ a0.size) = true := decide_eq_true (by omega)
     clear c24
     by_cases c25 : (a0.size : Int) ≤ 14
     ·rw [if_pos c25] at H
      have c25b0 : decide ((a0.size : Int) ≤ 14) = true := decide_eq_true c25
      have c25b1 : decide (a0.size ≤ 14) = true := decide_eq_true (by omega)
      clear c25
      by_cases c26 : a0.toList = ([46] : List UInt8)
      ·rw [if_pos c26] at H
       have c26b0 : (a0.toList == ([46] : List UInt8)) = true := beq_iff_eq.mpr c26
       have c26b1 : (a0.toList != ([46] : List UInt8)) = false := bne_eq_false_iff_eq.mpr c26
       clear c26
       obtain rfl := Option.some.inj H
       go_wp2
       go_ret
       exact ⟨oS, oD⟩
      ·rw [if_neg c26] at H
       have c26b0 : (a0.toList == ([46] : List UInt8)) = false := beq_eq_false_iff_ne.mpr c26
       have c26b1 : (a0.toList != ([46] : List UInt8)) = true := bne_iff_ne.mpr c26
       obtain rfl := Option.some.inj H
       go_wp2
       go_ret
       exact ⟨oS, oD⟩
     ·rw [if_neg c25] at H
      have c25b0 : decide ((a0.size : Int) ≤ 14) = false := decide_eq_false c25
      have c25b1 : decide (a0.size ≤ 14) = false := decide_eq_false (by omega)
      clear c25
      obtain rfl := Option.some.inj H
      go_wp2
      go_ret
      exact ⟨oS, oD⟩
    ·rw [if_neg c24] at H
     have c24b0 : decide (1 ≤ (a0.size : Int)) = false := decide_eq_false c24
     have c24b1 : decide (1 ≤ a0.size) = false := decide_eq_false (by omega)
     clear c24
     obtain rfl := Option.some.inj H
     go_wp2
     go_ret
     exact ⟨oS, oD⟩

/-! ### impl_attrsOk: function 118 -/
def impl_attrsOk.l0 : Nat → List (S90) → List (S90) → Int → Int → Option (Bool)
 | 0, _, _, _, _ => none
 | k + 1, x0, x5, x6, x7 => if x7 < x6 then (if 0 ≤ x7 then (if x7 < (x5.length : Int) then ((impl_NameOk.f k ((rd_T90 x5 x7).f0)).bind fun t417 => (if t417 = true then ((impl_from.f (((rd_T90 x5 x7).f1).size : Int) 1 16).bind fun t418 => (if t418 = true then (if x7 > 0 then (if 0 ≤ (wrap64 (x7 - 1)) then (if (wrap64 (x7 - 1)) < (x0.length : Int) then (if ((Op.bytesLess (((rd_T90 x0 (wrap64 (x7 - 1))).f0).toList) (((rd_T90 x5 x7).f0).toList)) = true) then (impl_attrsOk.l0 k x0 x5 x6 (wrap64 (x7 + 1))) else (some false)) else (none)) else (none)) else (impl_attrsOk.l0 k x0 x5 x6 (wrap64 (x7 + 1)))) else (some false))) else (some false))) else (none)) else (none)) else (some (decide ((x0.length : Int) ≤ 4)))
def impl_attrsOk.f (k : Nat) (l0 : List (S90)) : Option (Bool) := impl_attrsOk.l0 k l0 l0 (l0.length : Int) 0
set_option maxHeartbeats 8000000 in
set_option maxRecDepth 100000 in
theorem impl_attrsOk.calls (k : Nat) (A0 : Option Addr) (c0 : Nat) (l0 : List (S90)) (r : Bool) (w : World) (hr0 : Kd.C k90 w A0 l0.length l0) (hc0 : l0.length ≤ c0) (h : impl_attrsOk.f k l0 = some r) :
  Calls Try.prog 118 #[.slice A0 l0.length c0] w fun e w' => e = .returned (.bool r) ∧ Below w.heap.size w w' := by
 have hu90 := Try.underlying90
 have HR0 := Aside0.mk hr0
 have HC0 := Aside0.mk hc0
 clear hr0 hc0
 have HB := Aside0.mk (Below.refl w.heap.size w)
 unfold impl_attrsOk.f at h
 have H := h
 clear h
 have H' := Aside0.mk H
 clear H
 go_enter Try.func118, Try.ntmps118
 go_wp2
 repeat (go_quiet (fail); try go_wp2)
 go_loopg [7] k (fun kq v7 w' => ∃ (x7_1 : Int), v7 = .int .i64 x7_1 ∧ Aside0 (impl_attrsOk.l0 kq l0 l0 (l0.length : Int) x7_1 = some r) ∧ Aside0 (kq ≤ k) ∧ Aside0 (Below w.heap.size w w'))
 case atStart => exact ⟨(0), oS, H', ⟨Nat.le_refl _⟩, ⟨oB⟩⟩
 case round =>
  clear H'
  obtain ⟨x7_1, rfl, HA, HK1, HB⟩ := hrel
  cases gk with
  | zero => exact absurd HA.out (by simp [impl_attrsOk.l0])
  | succ k1 =>
   have H := HA.out
   clear HA
   simp only [impl_attrsOk.l0] at H
   replace H := itD H
   rcases H with ⟨c2b0, H⟩ | ⟨c2b0, H⟩
   ·replace H := itD H
    rcases H with ⟨c3b0, H⟩ | ⟨c3b0, H⟩
    ·replace H := itD H
     rcases H with ⟨c4b0, H⟩ | ⟨c4b0, H⟩
     ·replace H := bA H
      obtain ⟨t417, A5, H⟩ := H
      try dsimp only at H
      replace H := itB H
      rcases H with ⟨rfl, H⟩ | ⟨rfl, H⟩
      ·replace H := bA H
       obtain ⟨t418, A7, H⟩ := H
       try dsimp only at H
       replace H := itB H
       rcases H with ⟨rfl, H⟩ | ⟨rfl, H⟩
       ·replace H := itG H
        rcases H with ⟨c9b0, H⟩ | ⟨c9b0, H⟩
        ·obtain ⟨ji10, hji10⟩ : ∃ j_ : Int, (wrap64 (x7_1 - 1)) = j_ := ⟨_, rfl⟩
         replace H : (if 0 ≤ (ji10) then (if (ji10) < (l0.length : Int) then (if ((Op.bytesLess (((rd_T90 l0 (ji10)).f0).toList) (((rd_T90 l0 x7_1).f0).toList)) = true) then (impl_attrsOk.l0 k1 l0 l0 (l0.length : Int) (wrap64 (x7_1 + 1))) else (some false)) else (none)) else (none)) = some r := by first | (rw [hji10] at H; exact H) | (simp only [hji10] at H ⊢; exact H)
         (try rw [hji10] at A5)
         (try rw [hji10] at A7)
         have hji10w : (IntKind.i64.wrap (x7_1 - 1)) = ji10 := (i64_w _).trans hji10
         replace H := itD H
         rcases H with ⟨c11b0, H⟩ | ⟨c11b0, H⟩
         ·replace H := itD H
          rcases H with ⟨c12b0, H⟩ | ⟨c12b0, H⟩
          ·by_cases c13 : ((Op.bytesLess (((rd_T90 l0 (ji10)).f0).toList) (((rd_T90 l0 x7_1).f0).toList)) = true)
           ·rw [if_pos c13] at H
            have c13b0 : (Op.bytesLess (((rd_T90 l0 (ji10)).f0).toList) (((rd_T90 l0 x7_1).f0).toList)) = true := c13
            clear c13
            have H' := Aside0.mk H
            clear H
            have p415 : (0 ≤ (x7_1 : Int)) = True := oT
            have q415 : (x7_1 < (l0.length : Int)) = True := oT
            obtain ⟨ad415, e415, hx415_0, hx415_1⟩ := at_T90 HR0.out x7_1 oa oa
            cases e415
            replace hx415_0 := cB HB hx415_0
            replace hx415_1 := cB HB hx415_1
            go_wp2_with (first | ((with_reducible refine gate_dst (N := 4) rfl ?_); (try (refine gate_guard (by rfl) ?_; dsimp only)); refine bx_ 4 #[.string (⟨#[]⟩ : ByteArray), .string (⟨#[]⟩ : ByteArray)] 90 ?_; intro gb416 hg w14 hbox hb; have BK416 := Aside0.mk (hbox); have GW416 := gs_ hg; replace HB := Aside0.mk (below_step oB hb); clear hb hbox hg; obtain ⟨⟨_, _⟩, _, _⟩ := z2 BK416) | (go_at_call 119; (with_reducible refine (impl_NameOk.calls k1 ((rd_T90 l0 x7_1).f0) true _ A5.out).mono ?_); rintro e w' ⟨rfl, ⟨nd, rfl⟩⟩) | (go_at_call 96; (with_reducible refine (impl_from.calls (((rd_T90 l0 x7_1).f1).size : Int) 1 16 true _ A7.out).mono ?_); rintro e w' ⟨rfl, ⟨nd, rfl⟩⟩; have p419 : (0 ≤ ((ji10) : Int)) = True := oT; have q419 : ((ji10) < (l0.length : Int)) = True := oT; obtain ⟨ad419, e419, hx419_0, hx419_1⟩ := at_T90 HR0.out (ji10) oa oa; obtain rfl : ad415 = ad419 := (by injection e419); have hn419_0 : ad415.block ≠ gb416 := Nat.ne_of_lt (Nat.lt_of_lt_of_le (by have := World.block_lt_of_cell? _ _ hx419_0; first | rwa [add_block] at this | exact this) GW416.out); have hn419_1 : ad415.block ≠ gb416 := Nat.ne_of_lt (Nat.lt_of_lt_of_le (by have := World.block_lt_of_cell? _ _ hx419_0; first | rwa [add_block] at this | exact this) GW416.out); replace hx419_0 := cB HB hx419_0; replace hx419_1 := cB HB hx419_1; replace hx419_0 := (cell_far (p := ⟨gb416, 0, none⟩) (by first | (rw [add_block]; exact hn419_0) | (show (Addr.add _ _).block ≠ _; rw [add_block]; exact hn419_0) | exact hn419_0) (.string ((rd_T90 l0 x7_1).f0))).trans hx419_0; replace hx419_1 := (cell_far (p := ⟨gb416, 0, none⟩) (by first | (rw [add_block]; exact hn419_0) | (show (Addr.add _ _).block ≠ _; rw [add_block]; exact hn419_0) | exact hn419_0) (.string ((rd_T90 l0 x7_1).f0))).trans hx419_1; replace hx419_0 := (cell_far (p := ⟨gb416, 1, none⟩) (by first | (rw [add_block]; exact hn419_1) | (show (Addr.add _ _).block ≠ _; rw [add_block]; exact hn419_1) | exact hn419_1) (.string ((rd_T90 l0 x7_1).f1))).trans hx419_0; replace hx419_1 := (cell_far (p := ⟨gb416, 1, none⟩) (by first | (rw [add_block]; exact hn419_1) | (show (Addr.add _ _).block ≠ _; rw [add_block]; exact hn419_1) | exact hn419_1) (.string ((rd_T90 l0 x7_1).f1))).trans hx419_1; (try have hy419_0 := fun (n_ : Nat) => (show ((((w14.drewN n_).setCell ⟨gb416, 0, none⟩ (.string ((rd_T90 l0 x7_1).f0))).setCell ⟨gb416, 1, none⟩ (.string ((rd_T90 l0 x7_1).f1)))).cell? _ = some _ from hx419_0)); (try have hy419_1 := fun (n_ : Nat) => (show ((((w14.drewN n_).setCell ⟨gb416, 0, none⟩ (.string ((rd_T90 l0 x7_1).f0))).setCell ⟨gb416, 1, none⟩ (.string ((rd_T90 l0 x7_1).f1)))).cell? _ = some _ from hx419_1)); clear hn419_0; clear hn419_1))
            try (have p419 : 0 ≤ ((ji10) : Int) := oa; have q419 : (ji10) < (l0.length : Int) := oa; obtain ⟨ad419, e419, hx419_0, hx419_1⟩ := at_T90 HR0.out (ji10) p419 q419; obtain rfl : ad415 = ad419 := (by injection e419); have hn419_0 : ad415.block ≠ gb416 := Nat.ne_of_lt (Nat.lt_of_lt_of_le (by have := World.block_lt_of_cell? _ _ hx419_0; first | rwa [add_block] at this | exact this) GW416.out); have hn419_1 : ad415.block ≠ gb416 := Nat.ne_of_lt (Nat.lt_of_lt_of_le (by have := World.block_lt_of_cell? _ _ hx419_0; first | rwa [add_block] at this | exact this) GW416.out); replace hx419_0 := cB HB hx419_0; replace hx419_1 := cB HB hx419_1; replace hx419_0 := (cell_far (p := ⟨gb416, 0, none⟩) (by first | (rw [add_block]; exact hn419_0) | (show (Addr.add _ _).block ≠ _; rw [add_block]; exact hn419_0) | exact hn419_0) (.string ((rd_T90 l0 x7_1).f0))).trans hx419_0; replace hx419_1 := (cell_far (p := ⟨gb416, 0, none⟩) (by first | (rw [add_block]; exact hn419_0) | (show (Addr.add _ _).block ≠ _; rw [add_block]; exact hn419_0) | exact hn419_0) (.string ((rd_T90 l0 x7_1).f0))).trans hx419_1; replace hx419_0 := (cell_far (p := ⟨gb416, 1, none⟩) (by first | (rw [add_block]; exact hn419_1) | (show (Addr.add _ _).block ≠ _; rw [add_block]; exact hn419_1) | exact hn419_1) (.string ((rd_T90 l0 x7_1).f1))).trans hx419_0; replace hx419_1 := (cell_far (p := ⟨gb416, 1, none⟩) (by first | (rw [add_block]; exact hn419_1) | (show (Addr.add _ _).block ≠ _; rw [add_block]; exact hn419_1) | exact hn419_1) (.string ((rd_T90 l0 x7_1).f1))).trans hx419_1; (try have hy419_0 := fun (n_ : Nat) => (show ((((w14.drewN n_).setCell ⟨gb416, 0, none⟩ (.string ((rd_T90 l0 x7_1).f0))).setCell ⟨gb416, 1, none⟩ (.string ((rd_T90 l0 x7_1).f1)))).cell? _ = some _ from hx419_0)); (try have hy419_1 := fun (n_ : Nat) => (show ((((w14.drewN n_).setCell ⟨gb416, 0, none⟩ (.string ((rd_T90 l0 x7_1).f0))).setCell ⟨gb416, 1, none⟩ (.string ((rd_T90 l0 x7_1).f1)))).cell? _ = some _ from hx419_1)); clear hn419_0; clear hn419_1; replace p419 := eq_true p419; replace q419 := eq_true q419)
            repeat (go_quiet (first | (go_at_call 119; (with_reducible refine (impl_NameOk.calls k1 ((rd_T90 l0 x7_1).f0) true _ A5.out).mono ?_); rintro e w' ⟨rfl, ⟨nd, rfl⟩⟩; exact oQ) | (go_at_call 96; (with_reducible refine (impl_from.calls (((rd_T90 l0 x7_1).f1).size : Int) 1 16 true _ A7.out).mono ?_); rintro e w' ⟨rfl, ⟨nd, rfl⟩⟩; exact oQ)); try go_wp2_with (first | ((with_reducible refine gate_dst (N := 4) rfl ?_); (try (refine gate_guard (by rfl) ?_; dsimp only)); refine bx_ 4 #[.string (⟨#[]⟩ : ByteArray), .string (⟨#[]⟩ : ByteArray)] 90 ?_; intro gb416 hg w14 hbox hb; have BK416 := Aside0.mk (hbox); have GW416 := gs_ hg; replace HB := Aside0.mk (below_step oB hb); clear hb hbox hg; obtain ⟨⟨_, _⟩, _, _⟩ := z2 BK416) | (go_at_call 119; (with_reducible refine (impl_NameOk.calls k1 ((rd_T90 l0 x7_1).f0) true _ A5.out).mono ?_); rintro e w' ⟨rfl, ⟨nd, rfl⟩⟩) | (go_at_call 96; (with_reducible refine (impl_from.calls (((rd_T90 l0 x7_1).f1).size : Int) 1 16 true _ A7.out).mono ?_); rintro e w' ⟨rfl, ⟨nd, rfl⟩⟩; have p419 : (0 ≤ ((ji10) : Int)) = True := oT; have q419 : ((ji10) < (l0.length : Int)) = True := oT; obtain ⟨ad419, e419, hx419_0, hx419_1⟩ := at_T90 HR0.out (ji10) oa oa; obtain rfl : ad415 = ad419 := (by injection e419); have hn419_0 : ad415.block ≠ gb416 := Nat.ne_of_lt (Nat.lt_of_lt_of_le (by have := World.block_lt_of_cell? _ _ hx419_0; first | rwa [add_block] at this | exact this) GW416.out); have hn419_1 : ad415.block ≠ gb416 := Nat.ne_of_lt (Nat.lt_of_lt_of_le (by have := World.block_lt_of_cell? _ _ hx419_0; first | rwa [add_block] at this | exact this) GW416.out); replace hx419_0 := cB HB hx419_0; replace hx419_1 := cB HB hx419_1; replace hx419_0 := (cell_far (p := ⟨gb416, 0, none⟩) (by first | (rw [add_block]; exact hn419_0) | (show (Addr.add _ _).block ≠ _; rw [add_block]; exact hn419_0) | exact hn419_0) (.string ((rd_T90 l0 x7_1).f0))).trans hx419_0; replace hx419_1 := (cell_far (p := ⟨gb416, 0, none⟩) (by first | (rw [add_block]; exact hn419_0) | (show (Addr.add _ _).block ≠ _; rw [add_block]; exact hn419_0) | exact hn419_0) (.string ((rd_T90 l0 x7_1).f0))).trans hx419_1; replace hx419_0 := (cell_far (p := ⟨gb416, 1, none⟩) (by first | (rw [add_block]; exact hn419_1) | (show (Addr.add _ _).block ≠ _; rw [add_block]; exact hn419_1) | exact hn419_1) (.string ((rd_T90 l0 x7_1).f1))).trans hx419_0; replace hx419_1 := (cell_far (p := ⟨gb416, 1, none⟩) (by first | (rw [add_block]; exact hn419_1) | (show (Addr.add _ _).block ≠ _; rw [add_block]; exact hn419_1) | exact hn419_1) (.string ((rd_T90 l0 x7_1).f1))).trans hx419_1; (try have hy419_0 := fun (n_ : Nat) => (show ((((w14.drewN n_).setCell ⟨gb416, 0, none⟩ (.string ((rd_T90 l0 x7_1).f0))).setCell ⟨gb416, 1, none⟩ (.string ((rd_T90 l0 x7_1).f1)))).cell? _ = some _ from hx419_0)); (try have hy419_1 := fun (n_ : Nat) => (show ((((w14.drewN n_).setCell ⟨gb416, 0, none⟩ (.string ((rd_T90 l0 x7_1).f0))).setCell ⟨gb416, 1, none⟩ (.string ((rd_T90 l0 x7_1).f1)))).cell? _ = some _ from hx419_1)); clear hn419_0; clear hn419_1)))
            go_roundg k1
            case measure => have := HK1.out; omega
            case rel => exact ⟨(wrap64 (x7_1 + 1)), oS, H', ⟨by have := HK1.out; omega⟩, ⟨oB⟩⟩
           ·rw [if_neg c13] at H
            have c13b0 : (Op.bytesLess (((rd_T90 l0 (ji10)).f0).toList) (((rd_T90 l0 x7_1).f0).toList)) = false := by simpa using c13
            clear c13
            obtain rfl := Option.some.inj H
            have p415 : (0 ≤ (x7_1 : Int)) = True := oT
            have q415 : (x7_1 < (l0.length : Int)) = True := oT
            obtain ⟨ad415, e415, hx415_0, hx415_1⟩ := at_T90 HR0.out x7_1 oa oa
            cases e415
            replace hx415_0 := cB HB hx415_0
            replace hx415_1 := cB HB hx415_1
            go_wp2_with (first | ((with_reducible refine gate_dst (N := 4) rfl ?_); (try (refine gate_guard (by rfl) ?_; dsimp only)); refine bx_ 4 #[.string (⟨#[]⟩ : ByteArray), .string (⟨#[]⟩ : ByteArray)] 90 ?_; intro gb416 hg w16 hbox hb; have BK416 := Aside0.mk (hbox); have GW416 := gs_ hg; replace HB := Aside0.mk (below_step oB hb); clear hb hbox hg; obtain ⟨⟨_, _⟩, _, _⟩ := z2 BK416) | (go_at_call 119; (with_reducible refine (impl_NameOk.calls k1 ((rd_T90 l0 x7_1).f0) true _ A5.out).mono ?_); rintro e w' ⟨rfl, ⟨nd, rfl⟩⟩) | (go_at_call 96; (with_reducible refine (impl_from.calls (((rd_T90 l0 x7_1).f1).size : Int) 1 16 true _ A7.out).mono ?_); rintro e w' ⟨rfl, ⟨nd, rfl⟩⟩; have p419 : (0 ≤ ((ji10) : Int)) = True := oT; have q419 : ((ji10) < (l0.length : Int)) = True := oT; obtain ⟨ad419, e419, hx419_0, hx419_1⟩ := at_T90 HR0.out (ji10) oa oa; obtain rfl : ad415 = ad419 := (by injection e419); have hn419_0 : ad415.block ≠ gb416 := Nat.ne_of_lt (Nat.lt_of_lt_of_le (by have := World.block_lt_of_cell? _ _ hx419_0; first | rwa [add_block] at this | exact this) GW416.out); have hn419_1 : ad415.block ≠ gb416 := Nat.ne_of_lt (Nat.lt_of_lt_of_le (by have := World.block_lt_of_cell? _ _ hx419_0; first | rwa [add_block] at this | exact this) GW416.out); replace hx419_0 := cB HB hx419_0; replace hx419_1 := cB HB hx419_1; replace hx419_0 := (cell_far (p := ⟨gb416, 0, none⟩) (by first | (rw [add_block]; exact hn419_0) | (show (Addr.add _ _).block ≠ _; rw [add_block]; exact hn419_0) | exact hn419_0) (.string ((rd_T90 l0 x7_1).f0))).trans hx419_0; replace hx419_1 := (cell_far (p := ⟨gb416, 0, none⟩) (by first | (rw [add_block]; exact hn419_0) | (show (Addr.add _ _).block ≠ _; rw [add_block]; exact hn419_0) | exact hn419_0) (.string ((rd_T90 l0 x7_1).f0))).trans hx419_1; replace hx419_0 := (cell_far (p := ⟨gb416, 1, none⟩) (by first | (rw [add_block]; exact hn419_1) | (show (Addr.add _ _).block ≠ _; rw [add_block]; exact hn419_1) | exact hn419_1) (.string ((rd_T90 l0 x7_1).f1))).trans hx419_0; replace hx419_1 := (cell_far (p := ⟨gb416, 1, none⟩) (by first | (rw [add_block]; exact hn419_1) | (show (Addr.add _ _).block ≠ _; rw [add_block]; exact hn419_1) | exact hn419_1) (.string ((rd_T90 l0 x7_1).f1))).trans hx419_1; (try have hy419_0 := fun (n_ : Nat) => (show ((((w16.drewN n_).setCell ⟨gb416, 0, none⟩ (.string ((rd_T90 l0 x7_1).f0))).setCell ⟨gb416, 1, none⟩ (.string ((rd_T90 l0 x7_1).f1)))).cell? _ = some _ from hx419_0)); (try have hy419_1 := fun (n_ : Nat) => (show ((((w16.drewN n_).setCell ⟨gb416, 0, none⟩ (.string ((rd_T90 l0 x7_1).f0))).setCell ⟨gb416, 1, none⟩ (.string ((rd_T90 l0 x7_1).f1)))).cell? _ = some _ from hx419_1)); clear hn419_0; clear hn419_1))
            try (have p419 : 0 ≤ ((ji10) : Int) := oa; have q419 : (ji10) < (l0.length : Int) := oa; obtain ⟨ad419, e419, hx419_0, hx419_1⟩ := at_T90 HR0.out (ji10) p419 q419; obtain rfl : ad415 = ad419 := (by injection e419); have hn419_0 : ad415.block ≠ gb416 := Nat.ne_of_lt (Nat.lt_of_lt_of_le (by have := World.block_lt_of_cell? _ _ hx419_0; first | rwa [add_block] at this | exact this) GW416.out); have hn419_1 : ad415.block ≠ gb416 := Nat.ne_of_lt (Nat.lt_of_lt_of_le (by have := World.block_lt_of_cell? _ _ hx419_0; first | rwa [add_block] at this | exact this) GW416.out); replace hx419_0 := cB HB hx419_0; replace hx419_1 := cB HB hx419_1; replace hx419_0 := (cell_far (p := ⟨gb416, 0, none⟩) (by first | (rw [add_block]; exact hn419_0) | (show (Addr.add _ _).block ≠ _; rw [add_block]; exact hn419_0) | exact hn419_0) (.string ((rd_T90 l0 x7_1).f0))).trans hx419_0; replace hx419_1 := (cell_far (p := ⟨gb416, 0, none⟩) (by first | (rw [add_block]; exact hn419_0) | (show (Addr.add _ _).block ≠ _; rw [add_block]; exact hn419_0) | exact hn419_0) (.string ((rd_T90 l0 x7_1).f0))).trans hx419_1; replace hx419_0 := (cell_far (p := ⟨gb416, 1, none⟩) (by first | (rw [add_block]; exact hn419_1) | (show (Addr.add _ _).block ≠ _; rw [add_block]; exact hn419_1) | exact hn419_1) (.string ((rd_T90 l0 x7_1).f1))).trans hx419_0; replace hx419_1 := (cell_far (p := ⟨gb416, 1, none⟩) (by first | (rw [add_block]; exact hn419_1) | (show (Addr.add _ _).block ≠ _; rw [add_block]; exact hn419_1) | exact hn419_1) (.string ((rd_T90 l0 x7_1).f1))).trans hx419_1; (try have hy419_0 := fun (n_ : Nat) => (show ((((w16.drewN n_).setCell ⟨gb416, 0, none⟩ (.string ((rd_T90 l0 x7_1).f0))).setCell ⟨gb416, 1, none⟩ (.string ((rd_T90 l0 x7_1).f1)))).cell? _ = some _ from hx419_0)); (try have hy419_1 := fun (n_ : Nat) => (show ((((w16.drewN n_).setCell ⟨gb416, 0, none⟩ (.string ((rd_T90 l0 x7_1).f0))).setCell ⟨gb416, 1, none⟩ (.string ((rd_T90 l0 x7_1).f1)))).cell? _ = some _ from hx419_1)); clear hn419_0; clear hn419_1; replace p419 := eq_true p419; replace q419 := eq_true q419)
            repeat (go_quiet (first | (go_at_call 119; (with_reducible refine (impl_NameOk.calls k1 ((rd_T90 l0 x7_1).f0) true _ A5.out).mono ?_); rintro e w' ⟨rfl, ⟨nd, rfl⟩⟩; exact oQ) | (go_at_call 96; (with_reducible refine (impl_from.calls (((rd_T90 l0 x7_1).f1).size : Int) 1 16 true _ A7.out).mono ?_); rintro e w' ⟨rfl, ⟨nd, rfl⟩⟩; exact oQ)); try go_wp2_with (first | ((with_reducible refine gate_dst (N := 4) rfl ?_); (try (refine gate_guard (by rfl) ?_; dsimp only)); refine bx_ 4 #[.string (⟨#[]⟩ : ByteArray), .string (⟨#[]⟩ : ByteArray)] 90 ?_; intro gb416 hg w16 hbox hb; have BK416 := Aside0.mk (hbox); have GW416 := gs_ hg; replace HB := Aside0.mk (below_step oB hb); clear hb hbox hg; obtain ⟨⟨_, _⟩, _, _⟩ := z2 BK416) | (go_at_call 119; (with_reducible refine (impl_NameOk.calls k1 ((rd_T90 l0 x7_1).f0) true _ A5.out).mono ?_); rintro e w' ⟨rfl, ⟨nd, rfl⟩⟩) | (go_at_call 96; (with_reducible refine (impl_from.calls (((rd_T90 l0 x7_1).f1).size : Int) 1 16 true _ A7.out).mono ?_); rintro e w' ⟨rfl, ⟨nd, rfl⟩⟩; have p419 : (0 ≤ ((ji10) : Int)) = True := oT; have q419 : ((ji10) < (l0.length : Int)) = True := oT; obtain ⟨ad419, e419, hx419_0, hx419_1⟩ := at_T90 HR0.out (ji10) oa oa; obtain rfl : ad415 = ad419 := (by injection e419); have hn419_0 : ad415.block ≠ gb416 := Nat.ne_of_lt (Nat.lt_of_lt_of_le (by have := World.block_lt_of_cell? _ _ hx419_0; first | rwa [add_block] at this | exact this) GW416.out); have hn419_1 : ad415.block ≠ gb416 := Nat.ne_of_lt (Nat.lt_of_lt_of_le (by have := World.block_lt_of_cell? _ _ hx419_0; first | rwa [add_block] at this | exact this) GW416.out); replace hx419_0 := cB HB hx419_0; replace hx419_1 := cB HB hx419_1; replace hx419_0 := (cell_far (p := ⟨gb416, 0, none⟩) (by first | (rw [add_block]; exact hn419_0) | (show (Addr.add _ _).block ≠ _; rw [add_block]; exact hn419_0) | exact hn419_0) (.string ((rd_T90 l0 x7_1).f0))).trans hx419_0; replace hx419_1 := (cell_far (p := ⟨gb416, 0, none⟩) (by first | (rw [add_block]; exact hn419_0) | (show (Addr.add _ _).block ≠ _; rw [add_block]; exact hn419_0) | exact hn419_0) (.string ((rd_T90 l0 x7_1).f0))).trans hx419_1; replace hx419_0 := (cell_far (p := ⟨gb416, 1, none⟩) (by first | (rw [add_block]; exact hn419_1) | (show (Addr.add _ _).block ≠ _; rw [add_block]; exact hn419_1) | exact hn419_1) (.string ((rd_T90 l0 x7_1).f1))).trans hx419_0; replace hx419_1 := (cell_far (p := ⟨gb416, 1, none⟩) (by first | (rw [add_block]; exact hn419_1) | (show (Addr.add _ _).block ≠ _; rw [add_block]; exact hn419_1) | exact hn419_1) (.string ((rd_T90 l0 x7_1).f1))).trans hx419_1; (try have hy419_0 := fun (n_ : Nat) => (show ((((w16.drewN n_).setCell ⟨gb416, 0, none⟩ (.string ((rd_T90 l0 x7_1).f0))).setCell ⟨gb416, 1, none⟩ (.string ((rd_T90 l0 x7_1).f1)))).cell? _ = some _ from hx419_0)); (try have hy419_1 := fun (n_ : Nat) => (show ((((w16.drewN n_).setCell ⟨gb416, 0, none⟩ (.string ((rd_T90 l0 x7_1).f0))).setCell ⟨gb416, 1, none⟩ (.string ((rd_T90 l0 x7_1).f1)))).cell? _ = some _ from hx419_1)); clear hn419_0; clear hn419_1)))
            go_ret
            exact ⟨by first | rfl | (simp [errW_none, errW_some] <;> rfl) | (simp only [← hji10]; first | rfl | (simp [errW_none, errW_some] <;> rfl)) | (simp [*, errW_none, errW_some] <;> rfl), oB⟩
          ·cases H
         ·cases H
        ·have H' := Aside0.mk H
         clear H
         have p415 : (0 ≤ (x7_1 : Int)) = True := oT
         have q415 : (x7_1 < (l0.length : Int)) = True := oT
         obtain ⟨ad415, e415, hx415_0, hx415_1⟩ := at_T90 HR0.out x7_1 oa oa
         cases e415
         replace hx415_0 := cB HB hx415_0
         replace hx415_1 := cB HB hx415_1
         go_wp2_with (first | ((with_reducible refine gate_dst (N := 4) rfl ?_); (try (refine gate_guard (by rfl) ?_; dsimp only)); refine bx_ 4 #[.string (⟨#[]⟩ : ByteArray), .string (⟨#[]⟩ : ByteArray)] 90 ?_; intro gb416 hg w18 hbox hb; have BK416 := Aside0.mk (hbox); have GW416 := gs_ hg; replace HB := Aside0.mk (below_step oB hb); clear hb hbox hg; obtain ⟨⟨_, _⟩, _, _⟩ := z2 BK416) | (go_at_call 119; (with_reducible refine (impl_NameOk.calls k1 ((rd_T90 l0 x7_1).f0) true _ A5.out).mono ?_); rintro e w' ⟨rfl, ⟨nd, rfl⟩⟩) | (go_at_call 96; (with_reducible refine (impl_from.calls (((rd_T90 l0 x7_1).f1).size : Int) 1 16 true _ A7.out).mono ?_); rintro e w' ⟨rfl, ⟨nd, rfl⟩⟩))
         repeat (go_quiet (first | (go_at_call 119; (with_reducible refine (impl_NameOk.calls k1 ((rd_T90 l0 x7_1).f0) true _ A5.out).mono ?_); rintro e w' ⟨rfl, ⟨nd, rfl⟩⟩; exact oQ) | (go_at_call 96; (with_reducible refine (impl_from.calls (((rd_T90 l0 x7_1).f1).size : Int) 1 16 true _ A7.out).mono ?_); rintro e w' ⟨rfl, ⟨nd, rfl⟩⟩; exact oQ)); try go_wp2_with (first | ((with_reducible refine gate_dst (N := 4) rfl ?_); (try (refine gate_guard (by rfl) ?_; dsimp only)); refine bx_ 4 #[.string (⟨#[]⟩ : ByteArray), .string (⟨#[]⟩ : ByteArray)] 90 ?_; intro gb416 hg w18 hbox hb; have BK416 := Aside0.mk (hbox); have GW416 := gs_ hg; replace HB := Aside0.mk (below_step oB hb); clear hb hbox hg; obtain ⟨⟨_, _⟩, _, _⟩ := z2 BK416) | (go_at_call 119; (with_reducible refine (impl_NameOk.calls k1 ((rd_T90 l0 x7_1).f0) true _ A5.out).mono ?_); rintro e w' ⟨rfl, ⟨nd, rfl⟩⟩) | (go_at_call 96; (with_reducible refine (impl_from.calls (((rd_T90 l0 x7_1).f1).size : Int) 1 16 true _ A7.out).mono ?_); rintro e w' ⟨rfl, ⟨nd, rfl⟩⟩)))
         go_roundg k1
         case measure => have := HK1.out; omega
         case rel => exact ⟨(wrap64 (x7_1 + 1)), oS, H', ⟨by have := HK1.out; omega⟩, ⟨oB⟩⟩
       ·obtain rfl := Option.some.inj H
        have p415 : (0 ≤ (x7_1 : Int)) = True := oT
        have q415 : (x7_1 < (l0.length : Int)) = True := oT
        obtain ⟨ad415, e415, hx415_0, hx415_1⟩ := at_T90 HR0.out x7_1 oa oa
        cases e415
        replace hx415_0 := cB HB hx415_0
        replace hx415_1 := cB HB hx415_1
        go_wp2_with (first | ((with_reducible refine gate_dst (N := 4) rfl ?_); (try (refine gate_guard (by rfl) ?_; dsimp only)); refine bx_ 4 #[.string (⟨#[]⟩ : ByteArray), .string (⟨#[]⟩ : ByteArray)] 90 ?_; intro gb416 hg w20 hbox hb; have BK416 := Aside0.mk (hbox); have GW416 := gs_ hg; replace HB := Aside0.mk (below_step oB hb); clear hb hbox hg; obtain ⟨⟨_, _⟩, _, _⟩ := z2 BK416) | (go_at_call 119; (with_reducible refine (impl_NameOk.calls k1 ((rd_T90 l0 x7_1).f0) true _ A5.out).mono ?_); rintro e w' ⟨rfl, ⟨nd, rfl⟩⟩) | (go_at_call 96; (with_reducible refine (impl_from.calls (((rd_T90 l0 x7_1).f1).size : Int) 1 16 false _ A7.out).mono ?_); rintro e w' ⟨rfl, ⟨nd, rfl⟩⟩))
        repeat (go_quiet (first | (go_at_call 119; (with_reducible refine (impl_NameOk.calls k1 ((rd_T90 l0 x7_1).f0) true _ A5.out).mono ?_); rintro e w' ⟨rfl, ⟨nd, rfl⟩⟩; exact oQ) | (go_at_call 96; (with_reducible refine (impl_from.calls (((rd_T90 l0 x7_1).f1).size : Int) 1 16 false _ A7.out).mono ?_); rintro e w' ⟨rfl, ⟨nd, rfl⟩⟩; exact oQ)); try go_wp2_with (first | ((with_reducible refine gate_dst (N := 4) rfl ?_); (try (refine gate_guard (by rfl) ?_; dsimp only)); refine bx_ 4 #[.string (⟨#[]⟩ : ByteArray), .string (⟨#[]⟩ : ByteArray)] 90 ?_; intro gb416 hg w20 hbox hb; have BK416 := Aside0.mk (hbox); have GW416 := gs_ hg; replace HB := Aside0.mk (below_step oB hb); clear hb hbox hg; obtain ⟨⟨_, _⟩, _, _⟩ := z2 BK416) | (go_at_call 119; (with_reducible refine (impl_NameOk.calls k1 ((rd_T90 l0 x7_1).f0) true _ A5.out).mono ?_); rintro e w' ⟨rfl, ⟨nd, rfl⟩⟩) | (go_at_call 96; (with_reducible refine (impl_from.calls (((rd_T90 l0 x7_1).f1).size : Int) 1 16 false _ A7.out).mono ?_); rintro e w' ⟨rfl, ⟨nd, rfl⟩⟩)))
        go_ret
        exact ⟨oE, oB⟩
      ·obtain rfl := Option.some.inj H
       have p415 : (0 ≤ (x7_1 : Int)) = True := oT
       have q415 : (x7_1 < (l0.length : Int)) = True := oT
       obtain ⟨ad415, e415, hx415_0, hx415_1⟩ := at_T90 HR0.out x7_1 oa oa
       cases e415
       replace hx415_0 := cB HB hx415_0
       replace hx415_1 := cB HB hx415_1
       go_wp2_with (first | ((with_reducible refine gate_dst (N := 4) rfl ?_); (try (refine gate_guard (by rfl) ?_; dsimp only)); refine bx_ 4 #[.string (⟨#[]⟩ : ByteArray), .string (⟨#[]⟩ : ByteArray)] 90 ?_; intro gb416 hg w22 hbox hb; have BK416 := Aside0.mk (hbox); have GW416 := gs_ hg; replace HB := Aside0.mk (below_step oB hb); clear hb hbox hg; obtain ⟨⟨_, _⟩, _, _⟩ := z2 BK416) | (go_at_call 119; (with_reducible refine (impl_NameOk.calls k1 ((rd_T90 l0 x7_1).f0) false _ A5.out).mono ?_); rintro e w' ⟨rfl, ⟨nd, rfl⟩⟩))
       repeat (go_quiet (first | (go_at_call 119; (with_reducible refine (impl_NameOk.calls k1 ((rd_T90 l0 x7_1).f0) false _ A5.out).mono ?_); rintro e w' ⟨rfl, ⟨nd, rfl⟩⟩; exact oQ)); try go_wp2_with (first | ((with_reducible refine gate_dst (N := 4) rfl ?_); (try (refine gate_guard (by rfl) ?_; dsimp only)); refine bx_ 4 #[.string (⟨#[]⟩ : ByteArray), .string (⟨#[]⟩ : ByteArray)] 90 ?_; intro gb416 hg w22 hbox hb; have BK416 := Aside0.mk (hbox); have GW416 := gs_ hg; replace HB := Aside0.mk (below_step oB hb); clear hb hbox hg; obtain ⟨⟨_, _⟩, _, _⟩ := z2 BK416) | (go_at_call 119; (with_reducible refine (impl_NameOk.calls k1 ((rd_T90 l0 x7_1).f0) false _ A5.out).mono ?_); rintro e w' ⟨rfl, ⟨nd, rfl⟩⟩)))
       go_ret
       exact ⟨oE, oB⟩
     ·cases H
    ·cases H
   ·obtain rfl := Option.some.inj H
    go_wp2
    repeat (go_quiet (fail); try go_wp2)
    go_ret
    exact ⟨oE, oB⟩

/-! ### impl_InodeOk: function 97 -/
mutual
def impl_InodeOk.j0 : Nat → Bool → Int → Int → Int → List Int → List (S82) → List (S90) → Option (Bool)
 | 0, _, _, _, _, _, _, _ => none
 | k + 1, x26, x421000, x421001, x421002, x421003, x421004, x421005 => if x26 = true then (some false) else (impl_InodeOk.l0 k x421004 (x421004.length : Int) 0 x421000 x421001 x421002 x421003 x421004 x421005)
def impl_InodeOk.l0 : Nat → List (S82) → Int → Int → Int → Int → Int → List Int → List (S82) → List (S90) → Option (Bool)
 | 0, _, _, _, _, _, _, _, _, _ => none
 | k + 1, x28, x29, x30, x421000, x421001, x421002, x421003, x421004, x421005 => if x30 < x29 then (if 0 ≤ x30 then (if x30 < (x28.length : Int) then ((impl_NameOk.f k ((rd_T82 x28 x30).f0)).bind fun t425 => (if t425 = true then ((impl_from.f ((rd_T82 x28 x30).f1) 2 1000).bind fun t426 => (if t426 = true then (if x30 > 0 then (if 0 ≤ (wrap64 (x30 - 1)) then (if (wrap64 (x30 - 1)) < (x421004.length : Int) then (if ((Op.bytesLess (((rd_T82 x421004 (wrap64 (x30 - 1))).f0).toList) (((rd_T82 x28 x30).f0).toList)) = true) then (impl_InodeOk.l0 k x28 x29 (wrap64 (x30 + 1)) x421000 x421001 x421002 x421003 x421004 x421005) else (some false)) else (none)) else (none)) else (impl_InodeOk.l0 k x28 x29 (wrap64 (x30 + 1)) x421000 x421001 x421002 x421003 x421004 x421005)) else (some false))) else (some false))) else (none)) else (none)) else ((impl_from.f x421002 0 1000).bind fun t428 => (if t428 = true then (impl_InodeOk.j2 k ((x421002 == 0) != (x421000 == 1)) x421000 x421001 x421002 x421003 x421004 x421005) else (impl_InodeOk.j2 k true x421000 x421001 x421002 x421003 x421004 x421005)))
def impl_InodeOk.j2 : Nat → Bool → Int → Int → Int → List Int → List (S82) → List (S90) → Option (Bool)
 | 0, _, _, _, _, _, _, _ => none
 | k + 1, x74, x421000, x421001, x421002, x421003, x421004, x421005 => if x74 = true then (some false) else (if x421001 = 1 then (some ((x421004.length : Int) == 0)) else (if x421001 = 2 then (if (x421003.length : Int) = 0 then (some (decide (x421002 ≤ 1))) else (some false)) else (some false)))
end
def impl_InodeOk.f (k : Nat) (a0_0 : Int) (a0_1 : Int) (a0_2 : Int) (l0_3 : List Int) (l0_4 : List (S82)) (l0_5 : List (S90)) : Option (Bool) := (impl_from.f a0_0 1 1000).bind fun t421 => (if t421 = true then (if (l0_3.length : Int) > 100 then (impl_InodeOk.j0 k true a0_0 a0_1 a0_2 l0_3 l0_4 l0_5) else (if (l0_4.length : Int) > 10 then (impl_InodeOk.j0 k true a0_0 a0_1 a0_2 l0_3 l0_4 l0_5) else ((impl_attrsOk.f k l0_5).bind fun t422 => (impl_InodeOk.j0 k (!t422) a0_0 a0_1 a0_2 l0_3 l0_4 l0_5)))) else (impl_InodeOk.j0 k true a0_0 a0_1 a0_2 l0_3 l0_4 l0_5))
set_option maxHeartbeats 8000000 in
set_option maxRecDepth 100000 in
theorem impl_InodeOk.calls (k : Nat) (a0_0 : Int) (a0_1 : Int) (a0_2 : Int) (A0_3 : Option Addr) (c0_3 : Nat) (l0_3 : List Int) (A0_4 : Option Addr) (c0_4 : Nat) (l0_4 : List (S82)) (A0_5 : Option Addr) (c0_5 : Nat) (l0_5 : List (S90)) (r : Bool) (w : World) (hr0_3 : Kd.C (Kd.int .u8) w A0_3 l0_3.length l0_3) (hc0_3 : l0_3.length ≤ c0_3) (hr0_4 : Kd.C k82 w A0_4 l0_4.length l0_4) (hc0_4 : l0_4.length ≤ c0_4) (hr0_5 : Kd.C k90 w A0_5 l0_5.length l0_5) (hc0_5 : l0_5.length ≤ c0_5) (h : impl_InodeOk.f k a0_0 a0_1 a0_2 l0_3 l0_4 l0_5 = some r) :
  Calls Try.prog 97 #[.agg #[.int .i64 a0_0, .int .i64 a0_1, .int .i64 a0_2, .slice A0_3 l0_3.length c0_3, .slice A0_4 l0_4.length c0_4, .slice A0_5 l0_5.length c0_5]] w fun e w' => e = .returned (.bool r) ∧ Below w.heap.size w w' := by
 have hu40 := Try.underlying40
 have hu82 := Try.underlying82
 have HR0_3 := Aside0.mk hr0_3
 have HC0_3 := Aside0.mk hc0_3
 clear hr0_3 hc0_3
 have HR0_4 := Aside0.mk hr0_4
 have HC0_4 := Aside0.mk hc0_4
 clear hr0_4 hc0_4
 have HR0_5 := Aside0.mk hr0_5
 have HC0_5 := Aside0.mk hc0_5
 clear hr0_5 hc0_5
 have HB := Aside0.mk (Below.refl w.heap.size w)
 unfold impl_InodeOk.f at h
 have H := h
 clear h
 have HC2 := Aside0.mk H
 clear H
 go_enter Try.func97, Try.ntmps97
 go_upto_region 1 with (first | ((with_reducible refine gate_dst (N := 1) rfl ?_); (try (refine gate_guard (by rfl) ?_; dsimp only)); refine bx_ 1 #[.int .i64 a0_0, .int .i64 a0_1, .int .i64 a0_2, .slice A0_3 l0_3.length c0_3, .slice A0_4 l0_4.length c0_4, .slice A0_5 l0_5.length c0_5] 40 ?_; intro gb420 hg w3 hbox hb; have BK420 := Aside0.mk (hbox); have GW420 := gs_ hg; replace HB := Aside0.mk (below_step oB hb); clear hb hbox hg))
 repeat (go_quiet (fail); go_upto_region 1 with (first | ((with_reducible refine gate_dst (N := 1) rfl ?_); (try (refine gate_guard (by rfl) ?_; dsimp only)); refine bx_ 1 #[.int .i64 a0_0, .int .i64 a0_1, .int .i64 a0_2, .slice A0_3 l0_3.length c0_3, .slice A0_4 l0_4.length c0_4, .slice A0_5 l0_5.length c0_5] 40 ?_; intro gb420 hg w3 hbox hb; have BK420 := Aside0.mk (hbox); have GW420 := gs_ hg; replace HB := Aside0.mk (below_step oB hb); clear hb hbox hg)))
 (try simp only [Act.put, List.setIfInBounds_toArray, List.set_cons_zero, List.set_cons_succ])
 go_cut [26] (fun v26 wc => ∃ (kq : Nat) (x26_1 : Bool), v26 = .bool x26_1 ∧ Aside0 (impl_InodeOk.j0 kq x26_1 a0_0 a0_1 a0_2 l0_3 l0_4 l0_5 = some r) ∧ Aside0 (kq ≤ k) ∧ Aside0 (wc.heap[gb420]? = some (.cells #[.int .i64 a0_0, .int .i64 a0_1, .int .i64 a0_2, (.slice A0_3 l0_3.length c0_3), (.slice A0_4 l0_4.length c0_4), (.slice A0_5 l0_5.length c0_5)] 40 (0, 0))) ∧ Aside0 (Below w.heap.size w wc))
 case first =>
  have H := HC2.out
  clear HC2
  replace H := bA H
  obtain ⟨t421, A4, H⟩ := H
  try dsimp only at H
  replace H := itB H
  rcases H with ⟨rfl, H⟩ | ⟨rfl, H⟩
  ·by_cases c6 : (l0_3.length : Int) > 100
   ·rw [if_pos c6] at H
    have c6b0 : decide (100 < (l0_3.length : Int)) = true := decide_eq_true c6
    have c6b1 : decide (100 < l0_3.length) = true := decide_eq_true (by omega)
    clear c6
    (first | rw [c6b0] | rw [c6b2] | (simp only [i64_w, i32_w]; rw [c6b0]) | skip)
    have H' := Aside0.mk H
    clear H
    obtain ⟨⟨_, _, _, _, _, _⟩, _, _, _, _, _, _⟩ := z6 BK420
    go_wp2_with (first | (go_at_call 96; (with_reducible refine (impl_from.calls a0_0 1 1000 true _ A4.out).mono ?_); rintro e w' ⟨rfl, ⟨nd, rfl⟩⟩))
    repeat (go_quiet (first | (go_at_call 96; (with_reducible refine (impl_from.calls a0_0 1 1000 true _ A4.out).mono ?_); rintro e w' ⟨rfl, ⟨nd, rfl⟩⟩; exact oQ)); try go_wp2_with (first | (go_at_call 96; (with_reducible refine (impl_from.calls a0_0 1 1000 true _ A4.out).mono ?_); rintro e w' ⟨rfl, ⟨nd, rfl⟩⟩)))
    go_meet
    case rel => exact ⟨_, (true), oS, H', ⟨by first | omega | exact Nat.le_refl _⟩, ⟨oF BK420⟩, ⟨oB⟩⟩
   ·rw [if_neg c6] at H
    have c6b0 : decide (100 < (l0_3.length : Int)) = false := decide_eq_false c6
    have c6b1 : decide (100 < l0_3.length) = false := decide_eq_false (by omega)
    clear c6
    (first | rw [c6b0] | rw [c6b2] | (simp only [i64_w, i32_w]; rw [c6b0]) | skip)
    by_cases c8 : (l0_4.length : Int) > 10
    ·rw [if_pos c8] at H
     have c8b0 : decide (10 < (l0_4.length : Int)) = true := decide_eq_true c8
     have c8b1 : decide (10 < l0_4.length) = true := decide_eq_true (by omega)
     clear c8
     have H' := Aside0.mk H
     clear H
     obtain ⟨⟨_, _, _, _, _, _⟩, _, _, _, _, _, _⟩ := z6 BK420
     go_wp2_with (first | (go_at_call 96; (with_reducible refine (impl_from.calls a0_0 1 1000 true _ A4.out).mono ?_); rintro e w' ⟨rfl, ⟨nd, rfl⟩⟩))
     repeat (go_quiet (first | (go_at_call 96; (with_reducible refine (impl_from.calls a0_0 1 1000 true _ A4.out).mono ?_); rintro e w' ⟨rfl, ⟨nd, rfl⟩⟩; exact oQ)); try go_wp2_with (first | (go_at_call 96; (with_reducible refine (impl_from.calls a0_0 1 1000 true _ A4.out).mono ?_); rintro e w' ⟨rfl, ⟨nd, rfl⟩⟩)))
     go_meet
     case rel => exact ⟨_, (true), oS, H', ⟨by first | omega | exact Nat.le_refl _⟩, ⟨oF BK420⟩, ⟨oB⟩⟩
    ·rw [if_neg c8] at H
     have c8b0 : decide (10 < (l0_4.length : Int)) = false := decide_eq_false c8
     have c8b1 : decide (10 < l0_4.length) = false := decide_eq_false (by omega)
     clear c8
     replace H := bA H
     obtain ⟨t422, A10, H⟩ := H
     try dsimp only at H
     have H' := Aside0.mk H
     clear H
     obtain ⟨⟨_, _, _, _, _, _⟩, _, _, _, _, _, _⟩ := z6 BK420
     go_wp2_with (first | (go_at_call 96; (with_reducible refine (impl_from.calls a0_0 1 1000 true _ A4.out).mono ?_); rintro e w' ⟨rfl, ⟨nd, rfl⟩⟩) | (go_at_call 118; (with_reducible refine (impl_attrsOk.calls k _ _ l0_5 t422 _ (kC HR0_5) HC0_5.out A10.out).mono ?_); rintro e w12 ⟨rfl, hb⟩; replace BK420 := kb_ BK420 hb; replace HB := Aside0.mk (below_step oB hb)))
     repeat (go_quiet (first | (go_at_call 96; (with_reducible refine (impl_from.calls a0_0 1 1000 true _ A4.out).mono ?_); rintro e w' ⟨rfl, ⟨nd, rfl⟩⟩; exact oQ) | (go_at_call 118; (with_reducible refine (impl_attrsOk.calls k _ _ l0_5 t422 _ (kC HR0_5) HC0_5.out A10.out).mono ?_); rintro e w12 ⟨rfl, hb⟩; replace BK420 := kb_ BK420 hb; replace HB := Aside0.mk (below_step oB hb))); try go_wp2_with (first | (go_at_call 96; (with_reducible refine (impl_from.calls a0_0 1 1000 true _ A4.out).mono ?_); rintro e w' ⟨rfl, ⟨nd, rfl⟩⟩) | (go_at_call 118; (with_reducible refine (impl_attrsOk.calls k _ _ l0_5 t422 _ (kC HR0_5) HC0_5.out A10.out).mono ?_); rintro e w12 ⟨rfl, hb⟩; replace BK420 := kb_ BK420 hb; replace HB := Aside0.mk (below_step oB hb))))
     go_meet
     case rel => exact ⟨_, (!t422), oS, H', ⟨by first | omega | exact Nat.le_refl _⟩, ⟨oF BK420⟩, ⟨oB⟩⟩
  ·have H' := Aside0.mk H
   clear H
   obtain ⟨⟨_, _, _, _, _, _⟩, _, _, _, _, _, _⟩ := z6 BK420
   go_wp2_with (first | (go_at_call 96; (with_reducible refine (impl_from.calls a0_0 1 1000 false _ A4.out).mono ?_); rintro e w' ⟨rfl, ⟨nd, rfl⟩⟩))
   repeat (go_quiet (first | (go_at_call 96; (with_reducible refine (impl_from.calls a0_0 1 1000 false _ A4.out).mono ?_); rintro e w' ⟨rfl, ⟨nd, rfl⟩⟩; exact oQ)); try go_wp2_with (first | (go_at_call 96; (with_reducible refine (impl_from.calls a0_0 1 1000 false _ A4.out).mono ?_); rintro e w' ⟨rfl, ⟨nd, rfl⟩⟩)))
   go_meet
   case rel => exact ⟨_, (true), oS, H', ⟨by first | omega | exact Nat.le_refl _⟩, ⟨oF BK420⟩, ⟨oB⟩⟩
 case rest =>
  clear HC2
  obtain ⟨kq, x26_1, rfl, HA, HJ1, BK420, HB⟩ := hcut
  cases kq with
  | zero => exact absurd HA.out (by simp [impl_InodeOk.j0])
  | succ kj1 =>
   have H := HA.out
   clear HA
   simp only [impl_InodeOk.j0] at H
   replace H := itB H
   rcases H with ⟨rfl, H⟩ | ⟨rfl, H⟩
   ·obtain rfl := Option.some.inj H
    go_wp2
    repeat (go_quiet (fail); try go_wp2)
    go_ret
    exact ⟨oE, oB⟩
   ·have H' := Aside0.mk H
    clear H
    obtain ⟨⟨_, _, _, _, _, _⟩, _, _, _, _, _, _⟩ := z6 BK420
    go_wp2
    repeat (go_quiet (fail); try go_wp2)
    go_loopg [30] kj1 (fun kq v30 w' => ∃ (x30_2 : Int), v30 = .int .i64 x30_2 ∧ Aside0 (impl_InodeOk.l0 kq l0_4 (l0_4.length : Int) x30_2 a0_0 a0_1 a0_2 l0_3 l0_4 l0_5 = some r) ∧ Aside0 (kq ≤ kj1) ∧ Aside0 (w'.heap[gb420]? = some (.cells #[.int .i64 a0_0, .int .i64 a0_1, .int .i64 a0_2, (.slice A0_3 l0_3.length c0_3), (.slice A0_4 l0_4.length c0_4), (.slice A0_5 l0_5.length c0_5)] 40 (0, 0))) ∧ Aside0 (Below w.heap.size w w'))
    case atStart => exact ⟨(0), oS, H', ⟨Nat.le_refl _⟩, ⟨oF BK420⟩, ⟨oB⟩⟩
    case round =>
     clear H'
     obtain ⟨x30_2, rfl, HA, HK2, BK420, HB⟩ := hrel
     cases gk with
     | zero => exact absurd HA.out (by simp [impl_InodeOk.l0])
     | succ k2 =>
      have H := HA.out
      clear HA
      simp only [impl_InodeOk.l0] at H
      replace H := itD H
      rcases H with ⟨c16b0, H⟩ | ⟨c16b0, H⟩
      ·replace H := itD H
       rcases H with ⟨c17b0, H⟩ | ⟨c17b0, H⟩
       ·replace H := itD H
        rcases H with ⟨c18b0, H⟩ | ⟨c18b0, H⟩
        ·replace H := bA H
         obtain ⟨t425, A19, H⟩ := H
         try dsimp only at H
         replace H := itB H
         rcases H with ⟨rfl, H⟩ | ⟨rfl, H⟩
         ·replace H := bA H
          obtain ⟨t426, A21, H⟩ := H
          try dsimp only at H
          replace H := itB H
          rcases H with ⟨rfl, H⟩ | ⟨rfl, H⟩
          ·replace H := itG H
           rcases H with ⟨c23b0, H⟩ | ⟨c23b0, H⟩
           ·obtain ⟨ji24, hji24⟩ : ∃ j_ : Int, (wrap64 (x30_2 - 1)) = j_ := ⟨_, rfl⟩
            replace H : (if 0 ≤ (ji24) then (if (ji24) < (l0_4.length : Int) then (if ((Op.bytesLess (((rd_T82 l0_4 (ji24)).f0).toList) (((rd_T82 l0_4 x30_2).f0).toList)) = true) then (impl_InodeOk.l0 k2 l0_4 (l0_4.length : Int) (wrap64 (x30_2 + 1)) a0_0 a0_1 a0_2 l0_3 l0_4 l0_5) else (some false)) else (none)) else (none)) = some r := by first | (rw [hji24] at H; exact H) | (simp only [hji24] at H ⊢; exact H)
            (try rw [hji24] at A19)
            (try rw [hji24] at A21)
            have hji24w : (IntKind.i64.wrap (x30_2 - 1)) = ji24 := (i64_w _).trans hji24
            replace H := itD H
            rcases H with ⟨c25b0, H⟩ | ⟨c25b0, H⟩
            ·replace H := itD H
             rcases H with ⟨c26b0, H⟩ | ⟨c26b0, H⟩
             ·by_cases c27 : ((Op.bytesLess (((rd_T82 l0_4 (ji24)).f0).toList) (((rd_T82 l0_4 x30_2).f0).toList)) = true)
              ·rw [if_pos c27] at H
               have c27b0 : (Op.bytesLess (((rd_T82 l0_4 (ji24)).f0).toList) (((rd_T82 l0_4 x30_2).f0).toList)) = true := c27
               clear c27
               have H' := Aside0.mk H
               clear H
               have p423 : (0 ≤ (x30_2 : Int)) = True := oT
               have q423 : (x30_2 < (l0_4.length : Int)) = True := oT
               obtain ⟨ad423, e423, hx423_0, hx423_1⟩ := at_T82 HR0_4.out x30_2 oa oa
               cases e423
               replace hx423_0 := cB HB hx423_0
               replace hx423_1 := cB HB hx423_1
               go_wp2_with (first | ((with_reducible refine gate_dst (N := 4) rfl ?_); (try (refine gate_guard (by rfl) ?_; dsimp only)); refine bx_ 4 #[.string (⟨#[]⟩ : ByteArray), .int .i64 0] 82 ?_; intro gb424 hg w28 hbox hb; have BK424 := Aside0.mk (hbox); have GW424 := gs_ hg; have NB420_424 := nl_ hg BK420; have NB424_420 := nr_ hg BK420; replace BK420 := kb_ BK420 hb; replace HB := Aside0.mk (below_step oB hb); clear hb hbox hg; have hnb29 := NB424_420.out; have hnc29 := NB420_424.out; obtain ⟨⟨_, _⟩, _, _⟩ := z2 BK424) | (go_at_call 119; (with_reducible refine (impl_NameOk.calls k2 ((rd_T82 l0_4 x30_2).f0) true _ A19.out).mono ?_); rintro e w' ⟨rfl, ⟨nd, rfl⟩⟩) | (go_at_call 96; (with_reducible refine (impl_from.calls ((rd_T82 l0_4 x30_2).f1) 2 1000 true _ A21.out).mono ?_); rintro e w' ⟨rfl, ⟨nd, rfl⟩⟩; obtain ⟨⟨_, _, _, _, _, _⟩, _, _, _, _, _, _⟩ := z6 BK420; have p427 : (0 ≤ ((ji24) : Int)) = True := oT; have q427 : ((ji24) < (l0_4.length : Int)) = True := oT; obtain ⟨ad427, e427, hx427_0, hx427_1⟩ := at_T82 HR0_4.out (ji24) oa oa; obtain rfl : ad423 = ad427 := (by injection e427); have hn427_0 : ad423.block ≠ gb424 := Nat.ne_of_lt (Nat.lt_of_lt_of_le (by have := World.block_lt_of_cell? _ _ hx427_0; first | rwa [add_block] at this | exact this) GW424.out); have hn427_1 : ad423.block ≠ gb424 := Nat.ne_of_lt (Nat.lt_of_lt_of_le (by have := World.block_lt_of_cell? _ _ hx427_0; first | rwa [add_block] at this | exact this) GW424.out); replace hx427_0 := cB HB hx427_0; replace hx427_1 := cB HB hx427_1; replace hx427_0 := (cell_far (p := ⟨gb424, 0, none⟩) (by first | (rw [add_block]; exact hn427_0) | (show (Addr.add _ _).block ≠ _; rw [add_block]; exact hn427_0) | exact hn427_0) (.string ((rd_T82 l0_4 x30_2).f0))).trans hx427_0; replace hx427_1 := (cell_far (p := ⟨gb424, 0, none⟩) (by first | (rw [add_block]; exact hn427_0) | (show (Addr.add _ _).block ≠ _; rw [add_block]; exact hn427_0) | exact hn427_0) (.string ((rd_T82 l0_4 x30_2).f0))).trans hx427_1; replace hx427_0 := (cell_far (p := ⟨gb424, 1, none⟩) (by first | (rw [add_block]; exact hn427_1) | (show (Addr.add _ _).block ≠ _; rw [add_block]; exact hn427_1) | exact hn427_1) (.int .i64 ((rd_T82 l0_4 x30_2).f1))).trans hx427_0; replace hx427_1 := (cell_far (p := ⟨gb424, 1, none⟩) (by first | (rw [add_block]; exact hn427_1) | (show (Addr.add _ _).block ≠ _; rw [add_block]; exact hn427_1) | exact hn427_1) (.int .i64 ((rd_T82 l0_4 x30_2).f1))).trans hx427_1; (try have hy427_0 := fun (n_ : Nat) => (show ((((w28.drewN n_).setCell ⟨gb424, 0, none⟩ (.string ((rd_T82 l0_4 x30_2).f0))).setCell ⟨gb424, 1, none⟩ (.int .i64 ((rd_T82 l0_4 x30_2).f1)))).cell? _ = some _ from hx427_0)); (try have hy427_1 := fun (n_ : Nat) => (show ((((w28.drewN n_).setCell ⟨gb424, 0, none⟩ (.string ((rd_T82 l0_4 x30_2).f0))).setCell ⟨gb424, 1, none⟩ (.int .i64 ((rd_T82 l0_4 x30_2).f1)))).cell? _ = some _ from hx427_1)); clear hn427_0; clear hn427_1))
               repeat (go_quiet (first | (go_at_call 119; (with_reducible refine (impl_NameOk.calls k2 ((rd_T82 l0_4 x30_2).f0) true _ A19.out).mono ?_); rintro e w' ⟨rfl, ⟨nd, rfl⟩⟩; exact oQ) | (go_at_call 96; (with_reducible refine (impl_from.calls ((rd_T82 l0_4 x30_2).f1) 2 1000 true _ A21.out).mono ?_); rintro e w' ⟨rfl, ⟨nd, rfl⟩⟩; exact oQ; obtain ⟨⟨_, _, _, _, _, _⟩, _, _, _, _, _, _⟩ := z6 BK420; have p427 : (0 ≤ ((ji24) : Int)) = True := oT; have q427 : ((ji24) < (l0_4.length : Int)) = True := oT; obtain ⟨ad427, e427, hx427_0, hx427_1⟩ := at_T82 HR0_4.out (ji24) oa oa; obtain rfl : ad423 = ad427 := (by injection e427); have hn427_0 : ad423.block ≠ gb424 := Nat.ne_of_lt (Nat.lt_of_lt_of_le (by have := World.block_lt_of_cell? _ _ hx427_0; first | rwa [add_block] at this | exact this) GW424.out); have hn427_1 : ad423.block ≠ gb424 := Nat.ne_of_lt (Nat.lt_of_lt_of_le (by have := World.block_lt_of_cell? _ _ hx427_0; first | rwa [add_block] at this | exact this) GW424.out); replace hx427_0 := cB HB hx427_0; replace hx427_1 := cB HB hx427_1; replace hx427_0 := (cell_far (p := ⟨gb424, 0, none⟩) (by first | (rw [add_block]; exact hn427_0) | (show (Addr.add _ _).block ≠ _; rw [add_block]; exact hn427_0) | exact hn427_0) (.string ((rd_T82 l0_4 x30_2).f0))).trans hx427_0; replace hx427_1 := (cell_far (p := ⟨gb424, 0, none⟩) (by first | (rw [add_block]; exact hn427_0) | (show (Addr.add _ _).block ≠ _; rw [add_block]; exact hn427_0) | exact hn427_0) (.string ((rd_T82 l0_4 x30_2).f0))).trans hx427_1; replace hx427_0 := (cell_far (p := ⟨gb424, 1, none⟩) (by first | (rw [add_block]; exact hn427_1) | (show (Addr.add _ _).block ≠ _; rw [add_block]; exact hn427_1) | exact hn427_1) (.int .i64 ((rd_T82 l0_4 x30_2).f1))).trans hx427_0; replace hx427_1 := (cell_far (p := ⟨gb424, 1, none⟩) (by first | (rw [add_block]; exact hn427_1) | (show (Addr.add _ _).block ≠ _; rw [add_block]; exact hn427_1) | exact hn427_1) (.int .i64 ((rd_T82 l0_4 x30_2).f1))).trans hx427_1; (try have hy427_0 := fun (n_ : Nat) => (show ((((w28.drewN n_).setCell ⟨gb424, 0, none⟩ (.string ((rd_T82 l0_4 x30_2).f0))).setCell ⟨gb424, 1, none⟩ (.int .i64 ((rd_T82 l0_4 x30_2).f1)))).cell? _ = some _ from hx427_0)); (try have hy427_1 := fun (n_ : Nat) => (show ((((w28.drewN n_).setCell ⟨gb424, 0, none⟩ (.string ((rd_T82 l0_4 x30_2).f0))).setCell ⟨gb424, 1, none⟩ (.int .i64 ((rd_T82 l0_4 x30_2).f1)))).cell? _ = some _ from hx427_1)); clear hn427_0; clear hn427_1)); try go_wp2_with (first | ((with_reducible refine gate_dst (N := 4) rfl ?_); (try (refine gate_guard (by rfl) ?_; dsimp only)); refine bx_ 4 #[.string (⟨#[]⟩ : ByteArray), .int .i64 0] 82 ?_; intro gb424 hg w28 hbox hb; have BK424 := Aside0.mk (hbox); have GW424 := gs_ hg; have NB420_424 := nl_ hg BK420; have NB424_420 := nr_ hg BK420; replace BK420 := kb_ BK420 hb; replace HB := Aside0.mk (below_step oB hb); clear hb hbox hg; have hnb29 := NB424_420.out; have hnc29 := NB420_424.out; obtain ⟨⟨_, _⟩, _, _⟩ := z2 BK424) | (go_at_call 119; (with_reducible refine (impl_NameOk.calls k2 ((rd_T82 l0_4 x30_2).f0) true _ A19.out).mono ?_); rintro e w' ⟨rfl, ⟨nd, rfl⟩⟩) | (go_at_call 96; (with_reducible refine (impl_from.calls ((rd_T82 l0_4 x30_2).f1) 2 1000 true _ A21.out).mono ?_); rintro e w' ⟨rfl, ⟨nd, rfl⟩⟩; obtain ⟨⟨_, _, _, _, _, _⟩, _, _, _, _, _, _⟩ := z6 BK420; have p427 : (0 ≤ ((ji24) : Int)) = True := oT; have q427 : ((ji24) < (l0_4.length : Int)) = True := oT; obtain ⟨ad427, e427, hx427_0, hx427_1⟩ := at_T82 HR0_4.out (ji24) oa oa; obtain rfl : ad423 = ad427 := (by injection e427); have hn427_0 : ad423.block ≠ gb424 := Nat.ne_of_lt (Nat.lt_of_lt_of_le (by have := World.block_lt_of_cell? _ _ hx427_0; first | rwa [add_block] at this | exact this) GW424.out); have hn427_1 : ad423.block ≠ gb424 := Nat.ne_of_lt (Nat.lt_of_lt_of_le (by have := World.block_lt_of_cell? _ _ hx427_0; first | rwa [add_block] at this | exact this) GW424.out); replace hx427_0 := cB HB hx427_0; replace hx427_1 := cB HB hx427_1; replace hx427_0 := (cell_far (p := ⟨gb424, 0, none⟩) (by first | (rw [add_block]; exact hn427_0) | (show (Addr.add _ _).block ≠ _; rw [add_block]; exact hn427_0) | exact hn427_0) (.string ((rd_T82 l0_4 x30_2).f0))).trans hx427_0; replace hx427_1 := (cell_far (p := ⟨gb424, 0, none⟩) (by first | (rw [add_block]; exact hn427_0) | (show (Addr.add _ _).block ≠ _; rw [add_block]; exact hn427_0) | exact hn427_0) (.string ((rd_T82 l0_4 x30_2).f0))).trans hx427_1; replace hx427_0 := (cell_far (p := ⟨gb424, 1, none⟩) (by first | (rw [add_block]; exact hn427_1) | (show (Addr.add _ _).block ≠ _; rw [add_block]; exact hn427_1) | exact hn427_1) (.int .i64 ((rd_T82 l0_4 x30_2).f1))).trans hx427_0; replace hx427_1 := (cell_far (p := ⟨gb424, 1, none⟩) (by first | (rw [add_block]; exact hn427_1) | (show (Addr.add _ _).block ≠ _; rw [add_block]; exact hn427_1) | exact hn427_1) (.int .i64 ((rd_T82 l0_4 x30_2).f1))).trans hx427_1; (try have hy427_0 := fun (n_ : Nat) => (show ((((w28.drewN n_).setCell ⟨gb424, 0, none⟩ (.string ((rd_T82 l0_4 x30_2).f0))).setCell ⟨gb424, 1, none⟩ (.int .i64 ((rd_T82 l0_4 x30_2).f1)))).cell? _ = some _ from hx427_0)); (try have hy427_1 := fun (n_ : Nat) => (show ((((w28.drewN n_).setCell ⟨gb424, 0, none⟩ (.string ((rd_T82 l0_4 x30_2).f0))).setCell ⟨gb424, 1, none⟩ (.int .i64 ((rd_T82 l0_4 x30_2).f1)))).cell? _ = some _ from hx427_1)); clear hn427_0; clear hn427_1)))
               go_roundg k2
               case measure => have := HJ1.out; have := HK2.out; omega
               case rel => exact ⟨(wrap64 (x30_2 + 1)), oS, H', ⟨by have := HJ1.out; have := HK2.out; omega⟩, ⟨oF BK420⟩, ⟨oB⟩⟩
              ·rw [if_neg c27] at H
               have c27b0 : (Op.bytesLess (((rd_T82 l0_4 (ji24)).f0).toList) (((rd_T82 l0_4 x30_2).f0).toList)) = false := by simpa using c27
               clear c27
               obtain rfl := Option.some.inj H
               have p423 : (0 ≤ (x30_2 : Int)) = True := oT
               have q423 : (x30_2 < (l0_4.length : Int)) = True := oT
               obtain ⟨ad423, e423, hx423_0, hx423_1⟩ := at_T82 HR0_4.out x30_2 oa oa
               cases e423
               replace hx423_0 := cB HB hx423_0
               replace hx423_1 := cB HB hx423_1
               go_wp2_with (first | ((with_reducible refine gate_dst (N := 4) rfl ?_); (try (refine gate_guard (by rfl) ?_; dsimp only)); refine bx_ 4 #[.string (⟨#[]⟩ : ByteArray), .int .i64 0] 82 ?_; intro gb424 hg w32 hbox hb; have BK424 := Aside0.mk (hbox); have GW424 := gs_ hg; have NB420_424 := nl_ hg BK420; have NB424_420 := nr_ hg BK420; replace BK420 := kb_ BK420 hb; replace HB := Aside0.mk (below_step oB hb); clear hb hbox hg; have hnb33 := NB424_420.out; have hnc33 := NB420_424.out; obtain ⟨⟨_, _⟩, _, _⟩ := z2 BK424) | (go_at_call 119; (with_reducible refine (impl_NameOk.calls k2 ((rd_T82 l0_4 x30_2).f0) true _ A19.out).mono ?_); rintro e w' ⟨rfl, ⟨nd, rfl⟩⟩) | (go_at_call 96; (with_reducible refine (impl_from.calls ((rd_T82 l0_4 x30_2).f1) 2 1000 true _ A21.out).mono ?_); rintro e w' ⟨rfl, ⟨nd, rfl⟩⟩; obtain ⟨⟨_, _, _, _, _, _⟩, _, _, _, _, _, _⟩ := z6 BK420; have p427 : (0 ≤ ((ji24) : Int)) = True := oT; have q427 : ((ji24) < (l0_4.length : Int)) = True := oT; obtain ⟨ad427, e427, hx427_0, hx427_1⟩ := at_T82 HR0_4.out (ji24) oa oa; obtain rfl : ad423 = ad427 := (by injection e427); have hn427_0 : ad423.block ≠ gb424 := Nat.ne_of_lt (Nat.lt_of_lt_of_le (by have := World.block_lt_of_cell? _ _ hx427_0; first | rwa [add_block] at this | exact this) GW424.out); have hn427_1 : ad423.block ≠ gb424 := Nat.ne_of_lt (Nat.lt_of_lt_of_le (by have := World.block_lt_of_cell? _ _ hx427_0; first | rwa [add_block] at this | exact this) GW424.out); replace hx427_0 := cB HB hx427_0; replace hx427_1 := cB HB hx427_1; replace hx427_0 := (cell_far (p := ⟨gb424, 0, none⟩) (by first | (rw [add_block]; exact hn427_0) | (show (Addr.add _ _).block ≠ _; rw [add_block]; exact hn427_0) | exact hn427_0) (.string ((rd_T82 l0_4 x30_2).f0))).trans hx427_0; replace hx427_1 := (cell_far (p := ⟨gb424, 0, none⟩) (by first | (rw [add_block]; exact hn427_0) | (show (Addr.add _ _).block ≠ _; rw [add_block]; exact hn427_0) | exact hn427_0) (.string ((rd_T82 l0_4 x30_2).f0))).trans hx427_1; replace hx427_0 := (cell_far (p := ⟨gb424, 1, none⟩) (by first | (rw [add_block]; exact hn427_1) | (show (Addr.add _ _).block ≠ _; rw [add_block]; exact hn427_1) | exact hn427_1) (.int .i64 ((rd_T82 l0_4 x30_2).f1))).trans hx427_0; replace hx427_1 := (cell_far (p := ⟨gb424, 1, none⟩) (by first | (rw [add_block]; exact hn427_1) | (show (Addr.add _ _).block ≠ _; rw [add_block]; exact hn427_1) | exact hn427_1) (.int .i64 ((rd_T82 l0_4 x30_2).f1))).trans hx427_1; (try have hy427_0 := fun (n_ : Nat) => (show ((((w32.drewN n_).setCell ⟨gb424, 0, none⟩ (.string ((rd_T82 l0_4 x30_2).f0))).setCell ⟨gb424, 1, none⟩ (.int .i64 ((rd_T82 l0_4 x30_2).f1)))).cell? _ = some _ from hx427_0)); (try have hy427_1 := fun (n_ : Nat) => (show ((((w32.drewN n_).setCell ⟨gb424, 0, none⟩ (.string ((rd_T82 l0_4 x30_2).f0))).setCell ⟨gb424, 1, none⟩ (.int .i64 ((rd_T82 l0_4 x30_2).f1)))).cell? _ = some _ from hx427_1)); clear hn427_0; clear hn427_1))
               repeat (go_quiet (first | (go_at_call 119; (with_reducible refine (impl_NameOk.calls k2 ((rd_T82 l0_4 x30_2).f0) true _ A19.out).mono ?_); rintro e w' ⟨rfl, ⟨nd, rfl⟩⟩; exact oQ) | (go_at_call 96; (with_reducible refine (impl_from.calls ((rd_T82 l0_4 x30_2).f1) 2 1000 true _ A21.out).mono ?_); rintro e w' ⟨rfl, ⟨nd, rfl⟩⟩; exact oQ; obtain ⟨⟨_, _, _, _, _, _⟩, _, _, _, _, _, _⟩ := z6 BK420; have p427 : (0 ≤ ((ji24) : Int)) = True := oT; have q427 : ((ji24) < (l0_4.length : Int)) = True := oT; obtain ⟨ad427, e427, hx427_0, hx427_1⟩ := at_T82 HR0_4.out (ji24) oa oa; obtain rfl : ad423 = ad427 := (by injection e427); have hn427_0 : ad423.block ≠ gb424 := Nat.ne_of_lt (Nat.lt_of_lt_of_le (by have := World.block_lt_of_cell? _ _ hx427_0; first | rwa [add_block] at this | exact this) GW424.out); have hn427_1 : ad423.block ≠ gb424 := Nat.ne_of_lt (Nat.lt_of_lt_of_le (by have := World.block_lt_of_cell? _ _ hx427_0; first | rwa [add_block] at this | exact this) GW424.out); replace hx427_0 := cB HB hx427_0; replace hx427_1 := cB HB hx427_1; replace hx427_0 := (cell_far (p := ⟨gb424, 0, none⟩) (by first | (rw [add_block]; exact hn427_0) | (show (Addr.add _ _).block ≠ _; rw [add_block]; exact hn427_0) | exact hn427_0) (.string ((rd_T82 l0_4 x30_2).f0))).trans hx427_0; replace hx427_1 := (cell_far (p := ⟨gb424, 0, none⟩) (by first | (rw [add_block]; exact hn427_0) | (show (Addr.add _ _).block ≠ _; rw [add_block]; exact hn427_0) | exact hn427_0) (.string ((rd_T82 l0_4 x30_2).f0))).trans hx427_1; replace hx427_0 := (cell_far (p := ⟨gb424, 1, none⟩) (by first | (rw [add_block]; exact hn427_1) | (show (Addr.add _ _).block ≠ _; rw [add_block]; exact hn427_1) | exact hn427_1) (.int .i64 ((rd_T82 l0_4 x30_2).f1))).trans hx427_0; replace hx427_1 := (cell_far (p := ⟨gb424, 1, none⟩) (by first | (rw [add_block]; exact hn427_1) | (show (Addr.add _ _).block ≠ _; rw [add_block]; exact hn427_1) | exact hn427_1) (.int .i64 ((rd_T82 l0_4 x30_2).f1))).trans hx427_1; (try have hy427_0 := fun (n_ : Nat) => (show ((((w32.drewN n_).setCell ⟨gb424, 0, none⟩ (.string ((rd_T82 l0_4 x30_2).f0))).setCell ⟨gb424, 1, none⟩ (.int .i64 ((rd_T82 l0_4 x30_2).f1)))).cell? _ = some _ from hx427_0)); (try have hy427_1 := fun (n_ : Nat) => (show ((((w32.drewN n_).setCell ⟨gb424, 0, none⟩ (.string ((rd_T82 l0_4 x30_2).f0))).setCell ⟨gb424, 1, none⟩ (.int .i64 ((rd_T82 l0_4 x30_2).f1)))).cell? _ = some _ from hx427_1)); clear hn427_0; clear hn427_1)); try go_wp2_with (first | ((with_reducible refine gate_dst (N := 4) rfl ?_); (try (refine gate_guard (by rfl) ?_; dsimp only)); refine bx_ 4 #[.string (⟨#[]⟩ : ByteArray), .int .i64 0] 82 ?_; intro gb424 hg w32 hbox hb; have BK424 := Aside0.mk (hbox); have GW424 := gs_ hg; have NB420_424 := nl_ hg BK420; have NB424_420 := nr_ hg BK420; replace BK420 := kb_ BK420 hb; replace HB := Aside0.mk (below_step oB hb); clear hb hbox hg; have hnb33 := NB424_420.out; have hnc33 := NB420_424.out; obtain ⟨⟨_, _⟩, _, _⟩ := z2 BK424) | (go_at_call 119; (with_reducible refine (impl_NameOk.calls k2 ((rd_T82 l0_4 x30_2).f0) true _ A19.out).mono ?_); rintro e w' ⟨rfl, ⟨nd, rfl⟩⟩) | (go_at_call 96; (with_reducible refine (impl_from.calls ((rd_T82 l0_4 x30_2).f1) 2 1000 true _ A21.out).mono ?_); rintro e w' ⟨rfl, ⟨nd, rfl⟩⟩; obtain ⟨⟨_, _, _, _, _, _⟩, _, _, _, _, _, _⟩ := z6 BK420; have p427 : (0 ≤ ((ji24) : Int)) = True := oT; have q427 : ((ji24) < (l0_4.length : Int)) = True := oT; obtain ⟨ad427, e427, hx427_0, hx427_1⟩ := at_T82 HR0_4.out (ji24) oa oa; obtain rfl : ad423 = ad427 := (by injection e427); have hn427_0 : ad423.block ≠ gb424 := Nat.ne_of_lt (Nat.lt_of_lt_of_le (by have := World.block_lt_of_cell? _ _ hx427_0; first | rwa [add_block] at this | exact this) GW424.out); have hn427_1 : ad423.block ≠ gb424 := Nat.ne_of_lt (Nat.lt_of_lt_of_le (by have := World.block_lt_of_cell? _ _ hx427_0; first | rwa [add_block] at this | exact this) GW424.out); replace hx427_0 := cB HB hx427_0; replace hx427_1 := cB HB hx427_1; replace hx427_0 := (cell_far (p := ⟨gb424, 0, none⟩) (by first | (rw [add_block]; exact hn427_0) | (show (Addr.add _ _).block ≠ _; rw [add_block]; exact hn427_0) | exact hn427_0) (.string ((rd_T82 l0_4 x30_2).f0))).trans hx427_0; replace hx427_1 := (cell_far (p := ⟨gb424, 0, none⟩) (by first | (rw [add_block]; exact hn427_0) | (show (Addr.add _ _).block ≠ _; rw [add_block]; exact hn427_0) | exact hn427_0) (.string ((rd_T82 l0_4 x30_2).f0))).trans hx427_1; replace hx427_0 := (cell_far (p := ⟨gb424, 1, none⟩) (by first | (rw [add_block]; exact hn427_1) | (show (Addr.add _ _).block ≠ _; rw [add_block]; exact hn427_1) | exact hn427_1) (.int .i64 ((rd_T82 l0_4 x30_2).f1))).trans hx427_0; replace hx427_1 := (cell_far (p := ⟨gb424, 1, none⟩) (by first | (rw [add_block]; exact hn427_1) | (show (Addr.add _ _).block ≠ _; rw [add_block]; exact hn427_1) | exact hn427_1) (.int .i64 ((rd_T82 l0_4 x30_2).f1))).trans hx427_1; (try have hy427_0 := fun (n_ : Nat) => (show ((((w32.drewN n_).setCell ⟨gb424, 0, none⟩ (.string ((rd_T82 l0_4 x30_2).f0))).setCell ⟨gb424, 1, none⟩ (.int .i64 ((rd_T82 l0_4 x30_2).f1)))).cell? _ = some _ from hx427_0)); (try have hy427_1 := fun (n_ : Nat) => (show ((((w32.drewN n_).setCell ⟨gb424, 0, none⟩ (.string ((rd_T82 l0_4 x30_2).f0))).setCell ⟨gb424, 1, none⟩ (.int .i64 ((rd_T82 l0_4 x30_2).f1)))).cell? _ = some _ from hx427_1)); clear hn427_0; clear hn427_1)))
               go_ret
               exact ⟨by first | rfl | (simp [errW_none, errW_some] <;> rfl) | (simp only [← hji24]; first | rfl | (simp [errW_none, errW_some] <;> rfl)) | (simp [*, errW_none, errW_some] <;> rfl), oB⟩
             ·cases H
            ·cases H
           ·have H' := Aside0.mk H
            clear H
            have p423 : (0 ≤ (x30_2 : Int)) = True := oT
            have q423 : (x30_2 < (l0_4.length : Int)) = True := oT
            obtain ⟨ad423, e423, hx423_0, hx423_1⟩ := at_T82 HR0_4.out x30_2 oa oa
            cases e423
            replace hx423_0 := cB HB hx423_0
            replace hx423_1 := cB HB hx423_1
            go_wp2_with (first | ((with_reducible refine gate_dst (N := 4) rfl ?_); (try (refine gate_guard (by rfl) ?_; dsimp only)); refine bx_ 4 #[.string (⟨#[]⟩ : ByteArray), .int .i64 0] 82 ?_; intro gb424 hg w36 hbox hb; have BK424 := Aside0.mk (hbox); have GW424 := gs_ hg; have NB420_424 := nl_ hg BK420; have NB424_420 := nr_ hg BK420; replace BK420 := kb_ BK420 hb; replace HB := Aside0.mk (below_step oB hb); clear hb hbox hg; have hnb37 := NB424_420.out; have hnc37 := NB420_424.out; obtain ⟨⟨_, _⟩, _, _⟩ := z2 BK424) | (go_at_call 119; (with_reducible refine (impl_NameOk.calls k2 ((rd_T82 l0_4 x30_2).f0) true _ A19.out).mono ?_); rintro e w' ⟨rfl, ⟨nd, rfl⟩⟩) | (go_at_call 96; (with_reducible refine (impl_from.calls ((rd_T82 l0_4 x30_2).f1) 2 1000 true _ A21.out).mono ?_); rintro e w' ⟨rfl, ⟨nd, rfl⟩⟩))
            repeat (go_quiet (first | (go_at_call 119; (with_reducible refine (impl_NameOk.calls k2 ((rd_T82 l0_4 x30_2).f0) true _ A19.out).mono ?_); rintro e w' ⟨rfl, ⟨nd, rfl⟩⟩; exact oQ) | (go_at_call 96; (with_reducible refine (impl_from.calls ((rd_T82 l0_4 x30_2).f1) 2 1000 true _ A21.out).mono ?_); rintro e w' ⟨rfl, ⟨nd, rfl⟩⟩; exact oQ)); try go_wp2_with (first | ((with_reducible refine gate_dst (N := 4) rfl ?_); (try (refine gate_guard (by rfl) ?_; dsimp only)); refine bx_ 4 #[.string (⟨#[]⟩ : ByteArray), .int .i64 0] 82 ?_; intro gb424 hg w36 hbox hb; have BK424 := Aside0.mk (hbox); have GW424 := gs_ hg; have NB420_424 := nl_ hg BK420; have NB424_420 := nr_ hg BK420; replace BK420 := kb_ BK420 hb; replace HB := Aside0.mk (below_step oB hb); clear hb hbox hg; have hnb37 := NB424_420.out; have hnc37 := NB420_424.out; obtain ⟨⟨_, _⟩, _, _⟩ := z2 BK424) | (go_at_call 119; (with_reducible refine (impl_NameOk.calls k2 ((rd_T82 l0_4 x30_2).f0) true _ A19.out).mono ?_); rintro e w' ⟨rfl, ⟨nd, rfl⟩⟩) | (go_at_call 96; (with_reducible refine (impl_from.calls ((rd_T82 l0_4 x30_2).f1) 2 1000 true _ A21.out).mono ?_); rintro e w' ⟨rfl, ⟨nd, rfl⟩⟩)))
            go_roundg k2
            case measure => have := HJ1.out; have := HK2.out; omega
            case rel => exact ⟨(wrap64 (x30_2 + 1)), oS, H', ⟨by have := HJ1.out; have := HK2.out; omega⟩, ⟨oF BK420⟩, ⟨oB⟩⟩
          ·obtain rfl := Option.some.inj H
           have p423 : (0 ≤ (x30_2 : Int)) = True := oT
           have q423 : (x30_2 < (l0_4.length : Int)) = True := oT
           obtain ⟨ad423, e423, hx423_0, hx423_1⟩ := at_T82 HR0_4.out x30_2 oa oa
           cases e423
           replace hx423_0 := cB HB hx423_0
           replace hx423_1 := cB HB hx423_1
           go_wp2_with (first | ((with_reducible refine gate_dst (N := 4) rfl ?_); (try (refine gate_guard (by rfl) ?_; dsimp only)); refine bx_ 4 #[.string (⟨#[]⟩ : ByteArray), .int .i64 0] 82 ?_; intro gb424 hg w39 hbox hb; have BK424 := Aside0.mk (hbox); have GW424 := gs_ hg; have NB420_424 := nl_ hg BK420; have NB424_420 := nr_ hg BK420; replace BK420 := kb_ BK420 hb; replace HB := Aside0.mk (below_step oB hb); clear hb hbox hg; have hnb40 := NB424_420.out; have hnc40 := NB420_424.out; obtain ⟨⟨_, _⟩, _, _⟩ := z2 BK424) | (go_at_call 119; (with_reducible refine (impl_NameOk.calls k2 ((rd_T82 l0_4 x30_2).f0) true _ A19.out).mono ?_); rintro e w' ⟨rfl, ⟨nd, rfl⟩⟩) | (go_at_call 96; (with_reducible refine (impl_from.calls ((rd_T82 l0_4 x30_2).f1) 2 1000 false _ A21.out).mono ?_); rintro e w' ⟨rfl, ⟨nd, rfl⟩⟩))
           repeat (go_quiet (first | (go_at_call 119; (with_reducible refine (impl_NameOk.calls k2 ((rd_T82 l0_4 x30_2).f0) true _ A19.out).mono ?_); rintro e w' ⟨rfl, ⟨nd, rfl⟩⟩; exact oQ) | (go_at_call 96; (with_reducible refine (impl_from.calls ((rd_T82 l0_4 x30_2).f1) 2 1000 false _ A21.out).mono ?_); rintro e w' ⟨rfl, ⟨nd, rfl⟩⟩; exact oQ)); try go_wp2_with (first | ((with_reducible refine gate_dst (N := 4) rfl ?_); (try (refine gate_guard (by rfl) ?_; dsimp only)); refine bx_ 4 #[.string (⟨#[]⟩ : ByteArray), .int .i64 0] 82 ?_; intro gb424 hg w39 hbox hb; have BK424 := Aside0.mk (hbox); have GW424 := gs_ hg; have NB420_424 := nl_ hg BK420; have NB424_420 := nr_ hg BK420; replace BK420 := kb_ BK420 hb; replace HB := Aside0.mk (below_step oB hb); clear hb hbox hg; have hnb40 := NB424_420.out; have hnc40 := NB420_424.out; obtain ⟨⟨_, _⟩, _, _⟩ := z2 BK424) | (go_at_call 119; (with_reducible refine (impl_NameOk.calls k2 ((rd_T82 l0_4 x30_2).f0) true _ A19.out).mono ?_); rintro e w' ⟨rfl, ⟨nd, rfl⟩⟩) | (go_at_call 96; (with_reducible refine (impl_from.calls ((rd_T82 l0_4 x30_2).f1) 2 1000 false _ A21.out).mono ?_); rintro e w' ⟨rfl, ⟨nd, rfl⟩⟩)))
           go_ret
           exact ⟨oE, oB⟩
         ·obtain rfl := Option.some.inj H
          have p423 : (0 ≤ (x30_2 : Int)) = True := oT
          have q423 : (x30_2 < (l0_4.length : Int)) = True := oT
          obtain ⟨ad423, e423, hx423_0, hx423_1⟩ := at_T82 HR0_4.out x30_2 oa oa
          cases e423
          replace hx423_0 := cB HB hx423_0
          replace hx423_1 := cB HB hx423_1
          go_wp2_with (first | ((with_reducible refine gate_dst (N := 4) rfl ?_); (try (refine gate_guard (by rfl) ?_; dsimp only)); refine bx_ 4 #[.string (⟨#[]⟩ : ByteArray), .int .i64 0] 82 ?_; intro gb424 hg w42 hbox hb; have BK424 := Aside0.mk (hbox); have GW424 := gs_ hg; have NB420_424 := nl_ hg BK420; have NB424_420 := nr_ hg BK420; replace BK420 := kb_ BK420 hb; replace HB := Aside0.mk (below_step oB hb); clear hb hbox hg; have hnb43 := NB424_420.out; have hnc43 := NB420_424.out; obtain ⟨⟨_, _⟩, _, _⟩ := z2 BK424) | (go_at_call 119; (with_reducible refine (impl_NameOk.calls k2 ((rd_T82 l0_4 x30_2).f0) false _ A19.out).mono ?_); rintro e w' ⟨rfl, ⟨nd, rfl⟩⟩))
          repeat (go_quiet (first | (go_at_call 119; (with_reducible refine (impl_NameOk.calls k2 ((rd_T82 l0_4 x30_2).f0) false _ A19.out).mono ?_); rintro e w' ⟨rfl, ⟨nd, rfl⟩⟩; exact oQ)); try go_wp2_with (first | ((with_reducible refine gate_dst (N := 4) rfl ?_); (try (refine gate_guard (by rfl) ?_; dsimp only)); refine bx_ 4 #[.string (⟨#[]⟩ : ByteArray), .int .i64 0] 82 ?_; intro gb424 hg w42 hbox hb; have BK424 := Aside0.mk (hbox); have GW424 := gs_ hg; have NB420_424 := nl_ hg BK420; have NB424_420 := nr_ hg BK420; replace BK420 := kb_ BK420 hb; replace HB := Aside0.mk (below_step oB hb); clear hb hbox hg; have hnb43 := NB424_420.out; have hnc43 := NB420_424.out; obtain ⟨⟨_, _⟩, _, _⟩ := z2 BK424) | (go_at_call 119; (with_reducible refine (impl_NameOk.calls k2 ((rd_T82 l0_4 x30_2).f0) false _ A19.out).mono ?_); rintro e w' ⟨rfl, ⟨nd, rfl⟩⟩)))
          go_ret
          exact ⟨oE, oB⟩
        ·cases H
       ·cases H
      ·have HC45 := Aside0.mk H
       clear H
       go_upto_region 9 with (fail)
       repeat (go_quiet (fail); go_upto_region 9 with (fail))
       go_cut [74] (fun v74 wc => ∃ (kq : Nat) (x74_44 : Bool), v74 = .bool x74_44 ∧ Aside0 (impl_InodeOk.j2 kq x74_44 a0_0 a0_1 a0_2 l0_3 l0_4 l0_5 = some r) ∧ Aside0 (kq ≤ k2) ∧ Aside0 (wc.heap[gb420]? = some (.cells #[.int .i64 a0_0, .int .i64 a0_1, .int .i64 a0_2, (.slice A0_3 l0_3.length c0_3), (.slice A0_4 l0_4.length c0_4), (.slice A0_5 l0_5.length c0_5)] 40 (0, 0))) ∧ Aside0 (Below w.heap.size w wc))
       case first =>
        have H := HC45.out
        clear HC45
        replace H := bA H
        obtain ⟨t428, A46, H⟩ := H
        try dsimp only at H
        replace H := itB H
        rcases H with ⟨rfl, H⟩ | ⟨rfl, H⟩
        ·have H' := Aside0.mk H
         clear H
         obtain ⟨⟨_, _, _, _, _, _⟩, _, _, _, _, _, _⟩ := z6 BK420
         go_wp2_with (first | (go_at_call 96; (with_reducible refine (impl_from.calls a0_2 0 1000 true _ A46.out).mono ?_); rintro e w' ⟨rfl, ⟨nd, rfl⟩⟩))
         repeat (go_quiet (first | (go_at_call 96; (with_reducible refine (impl_from.calls a0_2 0 1000 true _ A46.out).mono ?_); rintro e w' ⟨rfl, ⟨nd, rfl⟩⟩; exact oQ)); try go_wp2_with (first | (go_at_call 96; (with_reducible refine (impl_from.calls a0_2 0 1000 true _ A46.out).mono ?_); rintro e w' ⟨rfl, ⟨nd, rfl⟩⟩)))
         go_meet
         case rel => exact ⟨_, (((a0_2 == 0) != (a0_0 == 1))), oS, H', ⟨by have := HJ1.out; have := HK2.out; first | omega | exact Nat.le_refl _⟩, ⟨oF BK420⟩, ⟨oB⟩⟩
        ·have H' := Aside0.mk H
         clear H
         obtain ⟨⟨_, _, _, _, _, _⟩, _, _, _, _, _, _⟩ := z6 BK420
         go_wp2_with (first | (go_at_call 96; (with_reducible refine (impl_from.calls a0_2 0 1000 false _ A46.out).mono ?_); rintro e w' ⟨rfl, ⟨nd, rfl⟩⟩))
         repeat (go_quiet (first | (go_at_call 96; (with_reducible refine (impl_from.calls a0_2 0 1000 false _ A46.out).mono ?_); rintro e w' ⟨rfl, ⟨nd, rfl⟩⟩; exact oQ)); try go_wp2_with (first | (go_at_call 96; (with_reducible refine (impl_from.calls a0_2 0 1000 false _ A46.out).mono ?_); rintro e w' ⟨rfl, ⟨nd, rfl⟩⟩)))
         go_meet
         case rel => exact ⟨_, (true), oS, H', ⟨by have := HJ1.out; have := HK2.out; first | omega | exact Nat.le_refl _⟩, ⟨oF BK420⟩, ⟨oB⟩⟩
       case rest =>
        clear HC45
        try clear c16b0
        obtain ⟨kq, x74_44, rfl, HA, HJ44, BK420, HB⟩ := hcut
        cases kq with
        | zero => exact absurd HA.out (by simp [impl_InodeOk.j2])
        | succ kj44 =>
         have H := HA.out
         clear HA
         simp only [impl_InodeOk.j2] at H
         replace H := itB H
         rcases H with ⟨rfl, H⟩ | ⟨rfl, H⟩
         ·obtain rfl := Option.some.inj H
          go_wp2
          repeat (go_quiet (fail); try go_wp2)
          go_ret
          exact ⟨oE, oB⟩
         ·by_cases c51 : a0_1 = 1
          ·rw [if_pos c51] at H
           have c51b0 : (a0_1 == 1) = true := beq_iff_eq.mpr c51
           have c51b1 : (a0_1 != 1) = false := bne_eq_false_iff_eq.mpr c51
           clear c51
           obtain rfl := Option.some.inj H
           obtain ⟨⟨_, _, _, _, _, _⟩, _, _, _, _, _, _⟩ := z6 BK420
           go_wp2
           repeat (go_quiet (fail); try go_wp2)
           go_ret
           exact ⟨oE, oB⟩
          ·rw [if_neg c51] at H
           have c51b0 : (a0_1 == 1) = false := beq_eq_false_iff_ne.mpr c51
           have c51b1 : (a0_1 != 1) = true := bne_iff_ne.mpr c51
           by_cases c53 : a0_1 = 2
           ·rw [if_pos c53] at H
            have c53b0 : (a0_1 == 2) = true := beq_iff_eq.mpr c53
            have c53b1 : (a0_1 != 2) = false := bne_eq_false_iff_eq.mpr c53
            clear c53
            by_cases c54 : (l0_3.length : Int) = 0
            ·rw [if_pos c54] at H
             have c54b0 : ((l0_3.length : Int) == 0) = true := beq_iff_eq.mpr c54
             have c54b1 : ((l0_3.length : Int) != 0) = false := bne_eq_false_iff_eq.mpr c54
             clear c54
             obtain rfl := Option.some.inj H
             obtain ⟨⟨_, _, _, _, _, _⟩, _, _, _, _, _, _⟩ := z6 BK420
             go_wp2
             repeat (go_quiet (fail); try go_wp2)
             go_ret
             exact ⟨oE, oB⟩
            ·rw [if_neg c54] at H
             have c54b0 : ((l0_3.length : Int) == 0) = false := beq_eq_false_iff_ne.mpr c54
             have c54b1 : ((l0_3.length : Int) != 0) = true := bne_iff_ne.mpr c54
             have c54b2 : ¬ (l0_3 = []) := fun h_ => c54 (by rw [h_]; rfl)
             obtain rfl := Option.some.inj H
             obtain ⟨⟨_, _, _, _, _, _⟩, _, _, _, _, _, _⟩ := z6 BK420
             go_wp2
             repeat (go_quiet (fail); try go_wp2)
             go_ret
             exact ⟨oE, oB⟩
           ·rw [if_neg c53] at H
            have c53b0 : (a0_1 == 2) = false := beq_eq_false_iff_ne.mpr c53
            have c53b1 : (a0_1 != 2) = true := bne_iff_ne.mpr c53
            obtain rfl := Option.some.inj H
            obtain ⟨⟨_, _, _, _, _, _⟩, _, _, _, _, _, _⟩ := z6 BK420
            go_wp2
            repeat (go_quiet (fail); try go_wp2)
            go_ret
            exact ⟨oE, oB⟩

end Go.Proofs.Ytmndnegpclaidaa.P
