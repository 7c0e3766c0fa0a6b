-- By this session's own program (wip/myprint.py) out of the translation; Lean checks it.
import Derived.Test.YtkknehgaebhbeaaPx0
import Derived.Test.YtkknehgaebhbeaaPx6
namespace Go.Proofs.Ytkknehgaebhbeaa.P
open Go.RowKit Go.Proofs.YtkknehgaebhbeaaW.PrintWords Go.Proofs.YtkknehgaebhbeaaW.PrintLast Go.Proofs.YtkknehgaebhbeaaW.PrintMore
attribute [local go_sem] max2_int min2_int max_two min_two max_three min_three max_four min_four   -- for this text's walks alone
set_option linter.unusedVariables false
set_option linter.unusedSimpArgs false

/-! ### impl_NameOk: function 92 -/
def impl_NameOk.l0 : Nat → ByteArray → Int → Int → Option (Bool)
 | 0, _, _, _ => none
 | k + 1, x0, x6, x7 => if x7 < x6 then (if 0 ≤ x7 then (if x7 < (x0.size : Int) then (if (bt x0 x7) < 97 then (if (bt x0 x7) < 48 then (if (bt x0 x7) = 95 then (impl_NameOk.l0 k x0 x6 (wrap64 (x7 + 1))) else (if (bt x0 x7) = 45 then (impl_NameOk.l0 k x0 x6 (wrap64 (x7 + 1))) else (if (bt x0 x7) = 46 then (impl_NameOk.l0 k x0 x6 (wrap64 (x7 + 1))) else (some false)))) else (if (bt x0 x7) > 57 then (if (bt x0 x7) = 95 then (impl_NameOk.l0 k x0 x6 (wrap64 (x7 + 1))) else (if (bt x0 x7) = 45 then (impl_NameOk.l0 k x0 x6 (wrap64 (x7 + 1))) else (if (bt x0 x7) = 46 then (impl_NameOk.l0 k x0 x6 (wrap64 (x7 + 1))) else (some false)))) else (impl_NameOk.l0 k x0 x6 (wrap64 (x7 + 1))))) else (if (bt x0 x7) > 122 then (if (bt x0 x7) < 48 then (if (bt x0 x7) = 95 then (impl_NameOk.l0 k x0 x6 (wrap64 (x7 + 1))) else (if (bt x0 x7) = 45 then (impl_NameOk.l0 k x0 x6 (wrap64 (x7 + 1))) else (if (bt x0 x7) = 46 then (impl_NameOk.l0 k x0 x6 (wrap64 (x7 + 1))) else (some false)))) else (if (bt x0 x7) > 57 then (if (bt x0 x7) = 95 then (impl_NameOk.l0 k x0 x6 (wrap64 (x7 + 1))) else (if (bt x0 x7) = 45 then (impl_NameOk.l0 k x0 x6 (wrap64 (x7 + 1))) else (if (bt x0 x7) = 46 then (impl_NameOk.l0 k x0 x6 (wrap64 (x7 + 1))) else (some false)))) else (impl_NameOk.l0 k x0 x6 (wrap64 (x7 + 1))))) else (impl_NameOk.l0 k x0 x6 (wrap64 (x7 + 1))))) else (none)) else (none)) else (if (x0.size : Int) ≥ 1 then (if (x0.size : Int) ≤ 14 then (if x0.toList = ([46] : List UInt8) then (some false) else (some (x0.toList != ([46, 46] : List UInt8)))) else (some false)) else (some false))
def impl_NameOk.f (k : Nat) (a0 : ByteArray) : Option (Bool) := impl_NameOk.l0 k a0 (a0.size : Int) 0
theorem impl_NameOk.mono_l : ∀ k, (∀ y0 y1 y2, LeO (impl_NameOk.l0 k y0 y1 y2) (impl_NameOk.l0 (k + 1) y0 y1 y2))
 | 0 => fun _ _ _ r h => by simp [impl_NameOk.l0] at h
 | k + 1 => by
  have ih0 := impl_NameOk.mono_l k
  ·intro y0 y1 y2
   unfold impl_NameOk.l0
   repeat' first
   | (with_reducible exact ih0 _ _ _)
   | (with_reducible exact LeO.refl _)
   | (with_reducible exact LeO.none _)
   | (with_reducible refine LeO.ite ?_ ?_)
   | (with_reducible refine LeO.bind ?_ (fun _ => ?_))
   | exact ih0 _ _ _
   | exact LeO.none _
   | refine LeO.ite ?_ ?_
   | refine LeO.bind ?_ (fun _ => ?_)
theorem impl_NameOk.mono : ∀ a0 k, LeO (impl_NameOk.f k a0) (impl_NameOk.f (k + 1) a0) := by
 intro a0 k
 have ih0 := impl_NameOk.mono_l k
 unfold impl_NameOk.f
 repeat' first
   | (with_reducible exact ih0 _ _ _)
   | (with_reducible exact LeO.refl _)
   | (with_reducible exact LeO.none _)
   | (with_reducible refine LeO.ite ?_ ?_)
   | (with_reducible refine LeO.bind ?_ (fun _ => ?_))
   | exact ih0 _ _ _
   | exact LeO.none _
   | refine LeO.ite ?_ ?_
   | refine LeO.bind ?_ (fun _ => ?_)
set_option maxHeartbeats 8000000 in
set_option maxRecDepth 100000 in
theorem impl_NameOk.calls (k : Nat) (a0 : ByteArray) (r : Bool) (w : World) (h : impl_NameOk.f k a0 = some r) :
  Calls Try.prog 92 #[.string a0] w fun e w' => e = .returned (.bool r) ∧ Drawn0 w w' := by
 have H : (impl_NameOk.l0 k a0 (a0.size : Int) 0) = some r := h
 clear h
 have H' := Aside0.mk H
 clear H
 go_enter Try.func92, Try.ntmps92
 go_wp2
 go_loopg [7] k (fun kq v7 w' => ∃ (x7_1 : Int), v7 = .int .i64 x7_1 ∧ Aside0 (impl_NameOk.l0 kq a0 (a0.size : Int) x7_1 = some r) ∧ Aside0 (kq ≤ k) ∧ Drawn0 w w')
 case atStart => exact ⟨(0), oS, H', ⟨Nat.le_refl _⟩, oD⟩
 case round =>
  clear H'
  obtain ⟨x7_1, rfl, HA, HK1, ⟨m1, rfl⟩⟩ := hrel
  cases gk with
  | zero => exact absurd HA.out (by simp [impl_NameOk.l0])
  | succ k1 =>
   have H := HA.out
   clear HA
   simp only [impl_NameOk.l0] at H
   by_cases c2 : x7_1 < (a0.size : Int)
   ·rw [if_pos c2] at H
    have c2b0 : decide (x7_1 < (a0.size : Int)) = true := decide_eq_true c2
    clear c2
    by_cases c3 : 0 ≤ x7_1
    ·rw [if_pos c3] at H
     have c3b0 : decide (0 ≤ x7_1) = true := decide_eq_true c3
     clear c3
     by_cases c4 : x7_1 < (a0.size : Int)
     ·rw [if_pos c4] at H
      have c4b0 : decide (x7_1 < (a0.size : Int)) = true := decide_eq_true c4
      clear c4
      by_cases c6 : (bt a0 x7_1) < 97
      ·rw [if_pos c6] at H
       have c6b0 : decide ((bt a0 x7_1) < 97) = true := decide_eq_true c6
       clear c6
       by_cases c7 : (bt a0 x7_1) < 48
       ·rw [if_pos c7] at H
        have c7b0 : decide ((bt a0 x7_1) < 48) = true := decide_eq_true c7
        clear c7
        by_cases c8 : (bt a0 x7_1) = 95
        ·rw [if_pos c8] at H
         have c8b0 : ((bt a0 x7_1) == 95) = true := beq_iff_eq.mpr c8
         have c8b1 : ((bt a0 x7_1) != 95) = false := bne_eq_false_iff_eq.mpr c8
         clear c8
         have H' := Aside0.mk H
         clear H
         have p5 : 0 ≤ (x7_1 : Int) := oa
         have q5 : x7_1 < (a0.size : Int) := oa
         have hx5 := bt_at a0 x7_1
         replace p5 := eq_true p5
         replace q5 := eq_true q5
         go_wp2
         go_roundg k1
         case measure => have := HK1.out; omega
         case rel => exact ⟨(wrap64 (x7_1 + 1)), oS, H', ⟨by have := HK1.out; omega⟩, oD⟩
        ·rw [if_neg c8] at H
         have c8b0 : ((bt a0 x7_1) == 95) = false := beq_eq_false_iff_ne.mpr c8
         have c8b1 : ((bt a0 x7_1) != 95) = true := bne_iff_ne.mpr c8
         by_cases c9 : (bt a0 x7_1) = 45
         ·rw [if_pos c9] at H
          have c9b0 : ((bt a0 x7_1) == 45) = true := beq_iff_eq.mpr c9
          have c9b1 : ((bt a0 x7_1) != 45) = false := bne_eq_false_iff_eq.mpr c9
          clear c9
          have H' := Aside0.mk H
          clear H
          have p5 : 0 ≤ (x7_1 : Int) := oa
          have q5 : x7_1 < (a0.size : Int) := oa
          have hx5 := bt_at a0 x7_1
          replace p5 := eq_true p5
          replace q5 := eq_true q5
          go_wp2
          go_roundg k1
          case measure => have := HK1.out; omega
          case rel => exact ⟨(wrap64 (x7_1 + 1)), oS, H', ⟨by have := HK1.out; omega⟩, oD⟩
         ·rw [if_neg c9] at H
          have c9b0 : ((bt a0 x7_1) == 45) = false := beq_eq_false_iff_ne.mpr c9
          have c9b1 : ((bt a0 x7_1) != 45) = true := bne_iff_ne.mpr c9
          by_cases c10 : (bt a0 x7_1) = 46
          ·rw [if_pos c10] at H
           have c10b0 : ((bt a0 x7_1) == 46) = true := beq_iff_eq.mpr c10
           have c10b1 : ((bt a0 x7_1) != 46) = false := bne_eq_false_iff_eq.mpr c10
           clear c10
           have H' := Aside0.mk H
           clear H
           have p5 : 0 ≤ (x7_1 : Int) := oa
           have q5 : x7_1 < (a0.size : Int) := oa
           have hx5 := bt_at a0 x7_1
           replace p5 := eq_true p5
           replace q5 := eq_true q5
           go_wp2
           go_roundg k1
           case measure => have := HK1.out; omega
           case rel => exact ⟨(wrap64 (x7_1 + 1)), oS, H', ⟨by have := HK1.out; omega⟩, oD⟩
          ·rw [if_neg c10] at H
           have c10b0 : ((bt a0 x7_1) == 46) = false := beq_eq_false_iff_ne.mpr c10
           have c10b1 : ((bt a0 x7_1) != 46) = true := bne_iff_ne.mpr c10
           obtain rfl := Option.some.inj H
           have p5 : 0 ≤ (x7_1 : Int) := oa
           have q5 : x7_1 < (a0.size : Int) := oa
           have hx5 := bt_at a0 x7_1
           replace p5 := eq_true p5
           replace q5 := eq_true q5
           go_wp2
           go_ret
           exact ⟨oS, oD⟩
       ·rw [if_neg c7] at H
        have c7b0 : decide ((bt a0 x7_1) < 48) = false := decide_eq_false c7
        clear c7
        by_cases c11 : (bt a0 x7_1) > 57
        ·rw [if_pos c11] at H
         have c11b0 : decide (57 < (bt a0 x7_1)) = true := decide_eq_true c11
         clear c11
         by_cases c12 : (bt a0 x7_1) = 95
         ·rw [if_pos c12] at H
          have c12b0 : ((bt a0 x7_1) == 95) = true := beq_iff_eq.mpr c12
          have c12b1 : ((bt a0 x7_1) != 95) = false := bne_eq_false_iff_eq.mpr c12
          clear c12
          have H' := Aside0.mk H
          clear H
          have p5 : 0 ≤ (x7_1 : Int) := oa
          have q5 : x7_1 < (a0.size : Int) := oa
          have hx5 := bt_at a0 x7_1
          replace p5 := eq_true p5
          replace q5 := eq_true q5
          go_wp2
          go_roundg k1
          case measure => have := HK1.out; omega
          case rel => exact ⟨(wrap64 (x7_1 + 1)), oS, H', ⟨by have := HK1.out; omega⟩, oD⟩
         ·rw [if_neg c12] at H
          have c12b0 : ((bt a0 x7_1) == 95) = false := beq_eq_false_iff_ne.mpr c12
          have c12b1 : ((bt a0 x7_1) != 95) = true := bne_iff_ne.mpr c12
          by_cases c13 : (bt a0 x7_1) = 45
          ·rw [if_pos c13] at H
           have c13b0 : ((bt a0 x7_1) == 45) = true := beq_iff_eq.mpr c13
           have c13b1 : ((bt a0 x7_1) != 45) = false := bne_eq_false_iff_eq.mpr c13
           clear c13
           have H' := Aside0.mk H
           clear H
           have p5 : 0 ≤ (x7_1 : Int) := oa
           have q5 : x7_1 < (a0.size : Int) := oa
           have hx5 := bt_at a0 x7_1
           replace p5 := eq_true p5
           replace q5 := eq_true q5
           go_wp2
           go_roundg k1
           case measure => have := HK1.out; omega
           case rel => exact ⟨(wrap64 (x7_1 + 1)), oS, H', ⟨by have := HK1.out; omega⟩, oD⟩
          ·rw [if_neg c13] at H
           have c13b0 : ((bt a0 x7_1) == 45) = false := beq_eq_false_iff_ne.mpr c13
           have c13b1 : ((bt a0 x7_1) != 45) = true := bne_iff_ne.mpr c13
           by_cases c14 : (bt a0 x7_1) = 46
           ·rw [if_pos c14] at H
            have c14b0 : ((bt a0 x7_1) == 46) = true := beq_iff_eq.mpr c14
            have c14b1 : ((bt a0 x7_1) != 46) = false := bne_eq_false_iff_eq.mpr c14
            clear c14
            have H' := Aside0.mk H
            clear H
            have p5 : 0 ≤ (x7_1 : Int) := oa
            have q5 : x7_1 < (a0.size : Int) := oa
            have hx5 := bt_at a0 x7_1
            replace p5 := eq_true p5
            replace q5 := eq_true q5
            go_wp2
            go_roundg k1
            case measure => have := HK1.out; omega
            case rel => exact ⟨(wrap64 (x7_1 + 1)), oS, H', ⟨by have := HK1.out; omega⟩, oD⟩
           ·rw [if_neg c14] at H
            have c14b0 : ((bt a0 x7_1) == 46) = false := beq_eq_false_iff_ne.mpr c14
            have c14b1 : ((bt a0 x7_1) != 46) = true := bne_iff_ne.mpr c14
            obtain rfl := Option.some.inj H
            have p5 : 0 ≤ (x7_1 : Int) := oa
            have q5 : x7_1 < (a0.size : Int) := oa
            have hx5 := bt_at a0 x7_1
            replace p5 := eq_true p5
            replace q5 := eq_true q5
            go_wp2
            go_ret
            exact ⟨oS, oD⟩
        ·rw [if_neg c11] at H
         have c11b0 : decide (57 < (bt a0 x7_1)) = false := decide_eq_false c11
         clear c11
         have H' := Aside0.mk H
         clear H
         have p5 : 0 ≤ (x7_1 : Int) := oa
         have q5 : x7_1 < (a0.size : Int) := oa
         have hx5 := bt_at a0 x7_1
         replace p5 := eq_true p5
         replace q5 := eq_true q5
         go_wp2
         go_roundg k1
         case measure => have := HK1.out; omega
         case rel => exact ⟨(wrap64 (x7_1 + 1)), oS, H', ⟨by have := HK1.out; omega⟩, oD⟩
      ·rw [if_neg c6] at H
       have c6b0 : decide ((bt a0 x7_1) < 97) = false := decide_eq_false c6
       clear c6
       by_cases c15 : (bt a0 x7_1) > 122
       ·rw [if_pos c15] at H
        have c15b0 : decide (122 < (bt a0 x7_1)) = true := decide_eq_true c15
        clear c15
        by_cases c16 : (bt a0 x7_1) < 48
        ·rw [if_pos c16] at H
         have c16b0 : decide ((bt a0 x7_1) < 48) = true := decide_eq_true c16
         clear c16
         by_cases c17 : (bt a0 x7_1) = 95
         ·rw [if_pos c17] at H
          have c17b0 : ((bt a0 x7_1) == 95) = true := beq_iff_eq.mpr c17
          have c17b1 : ((bt a0 x7_1) != 95) = false := bne_eq_false_iff_eq.mpr c17
          clear c17
          have H' := Aside0.mk H
          clear H
          have p5 : 0 ≤ (x7_1 : Int) := oa
          have q5 : x7_1 < (a0.size : Int) := oa
          have hx5 := bt_at a0 x7_1
          replace p5 := eq_true p5
          replace q5 := eq_true q5
          go_wp2
          go_roundg k1
          case measure => have := HK1.out; omega
          case rel => exact ⟨(wrap64 (x7_1 + 1)), oS, H', ⟨by have := HK1.out; omega⟩, oD⟩
         ·rw [if_neg c17] at H
          have c17b0 : ((bt a0 x7_1) == 95) = false := beq_eq_false_iff_ne.mpr c17
          have c17b1 : ((bt a0 x7_1) != 95) = true := bne_iff_ne.mpr c17
          by_cases c18 : (bt a0 x7_1) = 45
          ·rw [if_pos c18] at H
           have c18b0 : ((bt a0 x7_1) == 45) = true := beq_iff_eq.mpr c18
           have c18b1 : ((bt a0 x7_1) != 45) = false := bne_eq_false_iff_eq.mpr c18
           clear c18
           have H' := Aside0.mk H
           clear H
           have p5 : 0 ≤ (x7_1 : Int) := oa
           have q5 : x7_1 < (a0.size : Int) := oa
           have hx5 := bt_at a0 x7_1
           replace p5 := eq_true p5
           replace q5 := eq_true q5
           go_wp2
           go_roundg k1
           case measure => have := HK1.out; omega
           case rel => exact ⟨(wrap64 (x7_1 + 1)), oS, H', ⟨by have := HK1.out; omega⟩, oD⟩
          ·rw [if_neg c18] at H
           have c18b0 : ((bt a0 x7_1) == 45) = false := beq_eq_false_iff_ne.mpr c18
           have c18b1 : ((bt a0 x7_1) != 45) = true := bne_iff_ne.mpr c18
           by_cases c19 : (bt a0 x7_1) = 46
           ·rw [if_pos c19] at H
            have c19b0 : ((bt a0 x7_1) == 46) = true := beq_iff_eq.mpr c19
            have c19b1 : ((bt a0 x7_1) != 46) = false := bne_eq_false_iff_eq.mpr c19
            clear c19
            have H' := Aside0.mk H
            clear H
            have p5 : 0 ≤ (x7_1 : Int) := oa
            have q5 : x7_1 < (a0.size : Int) := oa
            have hx5 := bt_at a0 x7_1
            replace p5 := eq_true p5
            replace q5 := eq_true q5
            go_wp2
            go_roundg k1
            case measure => have := HK1.out; omega
            case rel => exact ⟨(wrap64 (x7_1 + 1)), oS, H', ⟨by have := HK1.out; omega⟩, oD⟩
           ·rw [if_neg c19] at H
            have c19b0 : ((bt a0 x7_1) == 46) = false := beq_eq_false_iff_ne.mpr c19
            have c19b1 : ((bt a0 x7_1) != 46) = true := bne_iff_ne.mpr c19
            obtain rfl := Option.some.inj H
            have p5 : 0 ≤ (x7_1 : Int) := oa
            have q5 : x7_1 < (a0.size : Int) := oa
            have hx5 := bt_at a0 x7_1
            replace p5 := eq_true p5
            replace q5 := eq_true q5
            go_wp2
            go_ret
            exact ⟨oS, oD⟩
        ·rw [if_neg c16] at H
         have c16b0 : decide ((bt a0 x7_1) < 48) = false := decide_eq_false c16
         clear c16
         by_cases c20 : (bt a0 x7_1) > 57
         ·rw [if_pos c20] at H
          have c20b0 : decide (57 < (bt a0 x7_1)) = true := decide_eq_true c20
          clear c20
          by_cases c21 : (bt a0 x7_1) = 95
          ·rw [if_pos c21] at H
           have c21b0 : ((bt a0 x7_1) == 95) = true := beq_iff_eq.mpr c21
           have c21b1 : ((bt a0 x7_1) != 95) = false := bne_eq_false_iff_eq.mpr c21
           clear c21
           have H' := Aside0.mk H
           clear H
           have p5 : 0 ≤ (x7_1 : Int) := oa
           have q5 : x7_1 < (a0.size : Int) := oa
           have hx5 := bt_at a0 x7_1
           replace p5 := eq_true p5
           replace q5 := eq_true q5
           go_wp2
           go_roundg k1
           case measure => have := HK1.out; omega
           case rel => exact ⟨(wrap64 (x7_1 + 1)), oS, H', ⟨by have := HK1.out; omega⟩, oD⟩
          ·rw [if_neg c21] at H
           have c21b0 : ((bt a0 x7_1) == 95) = false := beq_eq_false_iff_ne.mpr c21
           have c21b1 : ((bt a0 x7_1) != 95) = true := bne_iff_ne.mpr c21
           by_cases c22 : (bt a0 x7_1) = 45
           ·rw [if_pos c22] at H
            have c22b0 : ((bt a0 x7_1) == 45) = true := beq_iff_eq.mpr c22
            have c22b1 : ((bt a0 x7_1) != 45) = false := bne_eq_false_iff_eq.mpr c22
            clear c22
            have H' := Aside0.mk H
            clear H
            have p5 : 0 ≤ (x7_1 : Int) := oa
            have q5 : x7_1 < (a0.size : Int) := oa
            have hx5 := bt_at a0 x7_1
            replace p5 := eq_true p5
            replace q5 := eq_true q5
            go_wp2
            go_roundg k1
            case measure => have := HK1.out; omega
            case rel => exact ⟨(wrap64 (x7_1 + 1)), oS, H', ⟨by have := HK1.out; omega⟩, oD⟩
           ·rw [if_neg c22] at H
            have c22b0 : ((bt a0 x7_1) == 45) = false := beq_eq_false_iff_ne.mpr c22
            have c22b1 : ((bt a0 x7_1) != 45) = true := bne_iff_ne.mpr c22
            by_cases c23 : (bt a0 x7_1) = 46
            ·rw [if_pos c23] at H
             have c23b0 : ((bt a0 x7_1) == 46) = true := beq_iff_eq.mpr c23
             have c23b1 : ((bt a0 x7_1) != 46) = false := bne_eq_false_iff_eq.mpr c23
             clear c23
             have H' := Aside0.mk H
             clear H
             have p5 : 0 ≤ (x7_1 : Int) := oa
             have q5 : x7_1 < (a0.size : Int) := oa
             have hx5 := bt_at a0 x7_1
             replace p5 := eq_true p5
             replace q5 := eq_true q5
             go_wp2
             go_roundg k1
             case measure => have := HK1.out; omega
             case rel => exact ⟨(wrap64 (x7_1 + 1)), oS, H', ⟨by have := HK1.out; omega⟩, oD⟩
            ·rw [if_neg c23] at H
             have c23b0 : ((bt a0 x7_1) == 46) = false := beq_eq_false_iff_ne.mpr c23
             have c23b1 : ((bt a0 x7_1) != 46) = true := bne_iff_ne.mpr c23
             obtain rfl := Option.some.inj H
             have p5 : 0 ≤ (x7_1 : Int) := oa
             have q5 : x7_1 < (a0.size : Int) := oa
             have hx5 := bt_at a0 x7_1
             replace p5 := eq_true p5
             replace q5 := eq_true q5
             go_wp2
             go_ret
             exact ⟨oS, oD⟩
         ·rw [if_neg c20] at H
          have c20b0 : decide (57 < (bt a0 x7_1)) = false := decide_eq_false c20
          clear c20
          have H' := Aside0.mk H
          clear H
          have p5 : 0 ≤ (x7_1 : Int) := oa
          have q5 : x7_1 < (a0.size : Int) := oa
          have hx5 := bt_at a0 x7_1
          replace p5 := eq_true p5
          replace q5 := eq_true q5
          go_wp2
          go_roundg k1
          case measure => have := HK1.out; omega
          case rel => exact ⟨(wrap64 (x7_1 + 1)), oS, H', ⟨by have := HK1.out; omega⟩, oD⟩
       ·rw [if_neg c15] at H
        have c15b0 : decide (122 < (bt a0 x7_1)) = false := decide_eq_false c15
        clear c15
        have H' := Aside0.mk H
        clear H
        have p5 : 0 ≤ (x7_1 : Int) := oa
        have q5 : x7_1 < (a0.size : Int) := oa
        have hx5 := bt_at a0 x7_1
        replace p5 := eq_true p5
        replace q5 := eq_true q5
        go_wp2
        go_roundg k1
        case measure => have := HK1.out; omega
        case rel => exact ⟨(wrap64 (x7_1 + 1)), oS, H', ⟨by have := HK1.out; omega⟩, oD⟩
     ·rw [if_neg c4] at H
      exact absurd H (by simp)
    ·rw [if_neg c3] at H
     exact absurd H (by simp)
   ·rw [if_neg c2] at H
    have c2b0 : decide (x7_1 < (a0.size : Int)) = false := decide_eq_false c2
    clear c2
    by_cases c24 : (a0.size : Int) ≥ 1
    ·rw [if_pos c24] at H
     have c24b0 : decide (1 ≤ (a0.size : Int)) = true := decide_eq_true c24
     have c24b1 : decide (1 ≤ a0.size) = true := decide_eq_true (by omega)
     clear c24
     by_cases c25 : (a0.size : Int) ≤ 14
     ·rw [if_pos c25] at H
      have c25b0 : decide ((a0.size : Int) ≤ 14) = true := decide_eq_true c25
      have c25b1 : decide (a0.size ≤ 14) = true := decide_eq_true (by omega)
      clear c25
      by_cases c26 : a0.toList = ([46] : List UInt8)
      ·rw [if_pos c26] at H
       have c26b0 : (a0.toList == ([46] : List UInt8)) = true := beq_iff_eq.mpr c26
       have c26b1 : (a0.toList != ([46] : List UInt8)) = false := bne_eq_false_iff_eq.mpr c26
       clear c26
       obtain rfl := Option.some.inj H
       go_wp2
       go_ret
       exact ⟨oS, oD⟩
      ·rw [if_neg c26] at H
       have c26b0 : (a0.toList == ([46] : List UInt8)) = false := beq_eq_false_iff_ne.mpr c26
       have c26b1 : (a0.toList != ([46] : List UInt8)) = true := bne_iff_ne.mpr c26
       obtain rfl := Option.some.inj H
       go_wp2
       go_ret
       exact ⟨oS, oD⟩
     ·rw [if_neg c25] at H
      have c25b0 : decide ((a0.size : Int) ≤ 14) = false := decide_eq_false c25
      have c25b1 : decide (a0.size ≤ 14) = false := decide_eq_false (by omega)
      clear c25
      obtain rfl := Option.some.inj H
      go_wp2
      go_ret
      exact ⟨oS, oD⟩
    ·rw [if_neg c24] at H
     have c24b0 : decide (1 ≤ (a0.size : Int)) = false := decide_eq_false c24
     have c24b1 : decide (1 ≤ a0.size) = false := decide_eq_false (by omega)
     clear c24
     obtain rfl := Option.some.inj H
     go_wp2
     go_ret
     exact ⟨oS, oD⟩

/-! ### impl_attrsOk: function 91 -/
def impl_attrsOk.l0 : Nat → List (S85) → List (S85) → Int → Int → Option (Bool)
 | 0, _, _, _, _ => none
 | k + 1, x0, x5, x6, x7 => if x7 < x6 then (if 0 ≤ x7 then (if x7 < (x5.length : Int) then ((impl_NameOk.f k ((rd_T85 x5 x7).f0)).bind fun t350 => (if t350 = true then ((impl_from.f (((rd_T85 x5 x7).f1).size : Int) 1 16).bind fun t351 => (if t351 = true then (if x7 > 0 then (if 0 ≤ (wrap64 (x7 - 1)) then (if (wrap64 (x7 - 1)) < (x0.length : Int) then (if ((Op.bytesLess (((rd_T85 x0 (wrap64 (x7 - 1))).f0).toList) (((rd_T85 x5 x7).f0).toList)) = true) then (impl_attrsOk.l0 k x0 x5 x6 (wrap64 (x7 + 1))) else (some false)) else (none)) else (none)) else (impl_attrsOk.l0 k x0 x5 x6 (wrap64 (x7 + 1)))) else (some false))) else (some false))) else (none)) else (none)) else (some (decide ((x0.length : Int) ≤ 4)))
def impl_attrsOk.f (k : Nat) (l0 : List (S85)) : Option (Bool) := impl_attrsOk.l0 k l0 l0 (l0.length : Int) 0
theorem impl_attrsOk.mono_l : ∀ k, (∀ y0 y1 y2 y3, LeO (impl_attrsOk.l0 k y0 y1 y2 y3) (impl_attrsOk.l0 (k + 1) y0 y1 y2 y3))
 | 0 => fun _ _ _ _ r h => by simp [impl_attrsOk.l0] at h
 | k + 1 => by
  have ih0 := impl_attrsOk.mono_l k
  ·intro y0 y1 y2 y3
   unfold impl_attrsOk.l0
   repeat' first
   | (with_reducible exact ih0 _ _ _ _)
   | (with_reducible exact impl_NameOk.mono _ _)
   | (with_reducible exact LeO.refl _)
   | (with_reducible exact LeO.none _)
   | (with_reducible refine LeO.ite ?_ ?_)
   | (with_reducible refine LeO.bind ?_ (fun _ => ?_))
   | exact ih0 _ _ _ _
   | exact impl_NameOk.mono _ _
   | exact LeO.none _
   | refine LeO.ite ?_ ?_
   | refine LeO.bind ?_ (fun _ => ?_)
theorem impl_attrsOk.mono : ∀ a0 k, LeO (impl_attrsOk.f k a0) (impl_attrsOk.f (k + 1) a0) := by
 intro a0 k
 have ih0 := impl_attrsOk.mono_l k
 unfold impl_attrsOk.f
 repeat' first
   | (with_reducible exact ih0 _ _ _ _)
   | (with_reducible exact impl_NameOk.mono _ _)
   | (with_reducible exact LeO.refl _)
   | (with_reducible exact LeO.none _)
   | (with_reducible refine LeO.ite ?_ ?_)
   | (with_reducible refine LeO.bind ?_ (fun _ => ?_))
   | exact ih0 _ _ _ _
   | exact impl_NameOk.mono _ _
   | exact LeO.none _
   | refine LeO.ite ?_ ?_
   | refine LeO.bind ?_ (fun _ => ?_)
set_option maxHeartbeats 8000000 in
set_option maxRecDepth 100000 in
theorem impl_attrsOk.calls (k : Nat) (A0 : Option Addr) (c0 : Nat) (l0 : List (S85)) (r : Bool) (w : World) (hr0 : Kd.C k85 w A0 l0.length l0) (hc0 : l0.length ≤ c0) (h : impl_attrsOk.f k l0 = some r) :
  Calls Try.prog 91 #[.slice A0 l0.length c0] w fun e w' => e = .returned (.bool r) ∧ Below w.heap.size w w' := by
 have hu85 := Try.underlying85
 have HR0 := Aside0.mk hr0
 have HC0 := Aside0.mk hc0
 clear hr0 hc0
 have HB := Aside0.mk (Below.refl w.heap.size w)
 have H : (impl_attrsOk.l0 k l0 l0 (l0.length : Int) 0) = some r := h
 clear h
 have H' := Aside0.mk H
 clear H
 go_enter Try.func91, Try.ntmps91
 go_wp2
 repeat (go_quiet (fail); try go_wp2)
 go_loopg [7] k (fun kq v7 w' => ∃ (x7_1 : Int), v7 = .int .i64 x7_1 ∧ Aside0 (impl_attrsOk.l0 kq l0 l0 (l0.length : Int) x7_1 = some r) ∧ Aside0 (kq ≤ k) ∧ Aside0 (Below w.heap.size w w'))
 case atStart => exact ⟨(0), oS, H', ⟨Nat.le_refl _⟩, ⟨oB⟩⟩
 case round =>
  clear H'
  obtain ⟨x7_1, rfl, HA, HK1, HB⟩ := hrel
  cases gk with
  | zero => exact absurd HA.out (by simp [impl_attrsOk.l0])
  | succ k1 =>
   have H := HA.out
   clear HA
   simp only [impl_attrsOk.l0] at H
   by_cases c2 : x7_1 < (l0.length : Int)
   ·rw [if_pos c2] at H
    have c2b0 : decide (x7_1 < (l0.length : Int)) = true := decide_eq_true c2
    clear c2
    by_cases c3 : 0 ≤ x7_1
    ·rw [if_pos c3] at H
     have c3b0 : decide (0 ≤ x7_1) = true := decide_eq_true c3
     clear c3
     by_cases c4 : x7_1 < (l0.length : Int)
     ·rw [if_pos c4] at H
      have c4b0 : decide (x7_1 < (l0.length : Int)) = true := decide_eq_true c4
      clear c4
      replace H := Option.bind_eq_some_iff.mp H
      obtain ⟨t350, A50, H⟩ := H
      replace H : (if t350 = true then ((impl_from.f (((rd_T85 l0 x7_1).f1).size : Int) 1 16).bind fun t351 => (if t351 = true then (if x7_1 > 0 then (if 0 ≤ (wrap64 (x7_1 - 1)) then (if (wrap64 (x7_1 - 1)) < (l0.length : Int) then (if ((Op.bytesLess (((rd_T85 l0 (wrap64 (x7_1 - 1))).f0).toList) (((rd_T85 l0 x7_1).f0).toList)) = true) then (impl_attrsOk.l0 k1 l0 l0 (l0.length : Int) (wrap64 (x7_1 + 1))) else (some false)) else (none)) else (none)) else (impl_attrsOk.l0 k1 l0 l0 (l0.length : Int) (wrap64 (x7_1 + 1)))) else (some false))) else (some false)) = some r := H
      have A5 := Aside0.mk A50
      clear A50
      by_cases c6 : t350 = true
      ·subst c6
       have H1 : ((impl_from.f (((rd_T85 l0 x7_1).f1).size : Int) 1 16).bind fun t351 => (if t351 = true then (if x7_1 > 0 then (if 0 ≤ (wrap64 (x7_1 - 1)) then (if (wrap64 (x7_1 - 1)) < (l0.length : Int) then (if ((Op.bytesLess (((rd_T85 l0 (wrap64 (x7_1 - 1))).f0).toList) (((rd_T85 l0 x7_1).f0).toList)) = true) then (impl_attrsOk.l0 k1 l0 l0 (l0.length : Int) (wrap64 (x7_1 + 1))) else (some false)) else (none)) else (none)) else (impl_attrsOk.l0 k1 l0 l0 (l0.length : Int) (wrap64 (x7_1 + 1)))) else (some false))) = some r := by rw [if_pos rfl] at H; exact H
       clear H
       have H := H1
       clear H1
       replace H := Option.bind_eq_some_iff.mp H
       obtain ⟨t351, A70, H⟩ := H
       replace H : (if t351 = true then (if x7_1 > 0 then (if 0 ≤ (wrap64 (x7_1 - 1)) then (if (wrap64 (x7_1 - 1)) < (l0.length : Int) then (if ((Op.bytesLess (((rd_T85 l0 (wrap64 (x7_1 - 1))).f0).toList) (((rd_T85 l0 x7_1).f0).toList)) = true) then (impl_attrsOk.l0 k1 l0 l0 (l0.length : Int) (wrap64 (x7_1 + 1))) else (some false)) else (none)) else (none)) else (impl_attrsOk.l0 k1 l0 l0 (l0.length : Int) (wrap64 (x7_1 + 1)))) else (some false)) = some r := H
       have A7 := Aside0.mk A70
       clear A70
       by_cases c8 : t351 = true
       ·subst c8
        have H1 : (if x7_1 > 0 then (if 0 ≤ (wrap64 (x7_1 - 1)) then (if (wrap64 (x7_1 - 1)) < (l0.length : Int) then (if ((Op.bytesLess (((rd_T85 l0 (wrap64 (x7_1 - 1))).f0).toList) (((rd_T85 l0 x7_1).f0).toList)) = true) then (impl_attrsOk.l0 k1 l0 l0 (l0.length : Int) (wrap64 (x7_1 + 1))) else (some false)) else (none)) else (none)) else (impl_attrsOk.l0 k1 l0 l0 (l0.length : Int) (wrap64 (x7_1 + 1)))) = some r := by rw [if_pos rfl] at H; exact H
        clear H
        have H := H1
        clear H1
        by_cases c9 : x7_1 > 0
        ·rw [if_pos c9] at H
         have c9b0 : decide (0 < x7_1) = true := decide_eq_true c9
         clear c9
         obtain ⟨ji10, hji10⟩ : ∃ j_ : Int, (wrap64 (x7_1 - 1)) = j_ := ⟨_, rfl⟩
         replace H : (if 0 ≤ (ji10) then (if (ji10) < (l0.length : Int) then (if ((Op.bytesLess (((rd_T85 l0 (ji10)).f0).toList) (((rd_T85 l0 x7_1).f0).toList)) = true) then (impl_attrsOk.l0 k1 l0 l0 (l0.length : Int) (wrap64 (x7_1 + 1))) else (some false)) else (none)) else (none)) = some r := by first | (rw [hji10] at H; exact H) | (simp only [hji10] at H ⊢; exact H)
         (try rw [hji10] at A5)
         (try rw [hji10] at A7)
         have hji10w : (IntKind.i64.wrap (x7_1 - 1)) = ji10 := (i64_w _).trans hji10
         by_cases c11 : 0 ≤ (ji10)
         ·rw [if_pos c11] at H
          have c11b0 : decide (0 ≤ (ji10)) = true := decide_eq_true c11
          clear c11
          by_cases c12 : (ji10) < (l0.length : Int)
          ·rw [if_pos c12] at H
           have c12b0 : decide ((ji10) < (l0.length : Int)) = true := decide_eq_true c12
           clear c12
           by_cases c13 : ((Op.bytesLess (((rd_T85 l0 (ji10)).f0).toList) (((rd_T85 l0 x7_1).f0).toList)) = true)
           ·rw [if_pos c13] at H
            have c13b0 : (Op.bytesLess (((rd_T85 l0 (ji10)).f0).toList) (((rd_T85 l0 x7_1).f0).toList)) = true := c13
            clear c13
            have H' := Aside0.mk H
            clear H
            have p348 : 0 ≤ (x7_1 : Int) := oa
            have q348 : x7_1 < (l0.length : Int) := oa
            obtain ⟨ad348, e348, hx348_0, hx348_1⟩ := at_T85 HR0.out x7_1 p348 q348
            cases e348
            replace hx348_0 := (HB.out.cell (World.block_lt_of_cell? w _ hx348_0)).trans hx348_0
            replace hx348_1 := (HB.out.cell (World.block_lt_of_cell? w _ hx348_1)).trans hx348_1
            replace p348 := eq_true p348
            replace q348 := eq_true q348
            go_wp2_with (first | ((with_reducible refine gate_dst (N := 4) rfl ?_); (try (refine gate_guard (by rfl) ?_; dsimp only)); refine box_event ?hg (N := 4) ?hd (cs := #[.string (⟨#[]⟩ : ByteArray), .string (⟨#[]⟩ : ByteArray)]) (t := 85) ?hr ?_; (case hd => rfl); (case hg => rfl); (case hr => first | (go_simp; done) | (go_simp; rfl)); intro gb349 hg w14 hbox hb; have n0_ := Aside0.mk (below_step oB hb); have n1_ := Aside0.mk (hbox); have n2_ := Aside0.mk ((by rw [hg]; exact (below_size oB) : w.heap.size ≤ gb349)); have n3_ := Aside0.mk ((by rw [hg]; exact (below_size oB) : w.heap.size ≤ gb349)); clear HB; have HB := n0_; have BK349 := n1_; have GW349 := n2_; have GE349 := n3_; clear n0_ n1_ n2_ n3_; clear hb hbox hg; have hcz15_0 : w14.cell? ⟨gb349, 0, none⟩ = some (.string (⟨#[]⟩ : ByteArray)) := (blk_cell BK349.out 0).trans rfl; have hcz15_1 : w14.cell? ⟨gb349, 1, none⟩ = some (.string (⟨#[]⟩ : ByteArray)) := (blk_cell BK349.out 1).trans rfl; have hfz15_0 := blk_frozen BK349.out 0; have hfz15_1 := blk_frozen BK349.out 1) | (go_at_call 92; (with_reducible refine (impl_NameOk.calls k1 ((rd_T85 l0 x7_1).f0) true _ A5.out).mono ?_); rintro e w' ⟨rfl, ⟨nd, rfl⟩⟩; (try first | exact ⟨rfl, _, World.drewN_drewN _ _ _⟩ | exact ⟨rfl, _, Eq.trans (World.drewN_drewN _ _ _) (congrArg (World.drewN _) (Nat.add_assoc _ _ _))⟩)) | (go_at_call 90; (with_reducible refine (impl_from.calls (((rd_T85 l0 x7_1).f1).size : Int) 1 16 true _ A7.out).mono ?_); rintro e w' ⟨rfl, ⟨nd, rfl⟩⟩; (first | exact ⟨rfl, _, World.drewN_drewN _ _ _⟩ | exact ⟨rfl, _, Eq.trans (World.drewN_drewN _ _ _) (congrArg (World.drewN _) (Nat.add_assoc _ _ _))⟩ | (have p352 : 0 ≤ ((ji10) : Int) := oa; have q352 : (ji10) < (l0.length : Int) := oa; obtain ⟨ad352, e352, hx352_0, hx352_1⟩ := at_T85 HR0.out (ji10) p352 q352; obtain rfl : ad348 = ad352 := (by injection e352); have hn352_0 : ad348.block ≠ gb349 := Nat.ne_of_lt (Nat.lt_of_lt_of_le (by have := World.block_lt_of_cell? _ _ hx352_0; first | rwa [add_block] at this | exact this) GW349.out); have hn352_1 : ad348.block ≠ gb349 := Nat.ne_of_lt (Nat.lt_of_lt_of_le (by have := World.block_lt_of_cell? _ _ hx352_0; first | rwa [add_block] at this | exact this) GW349.out); replace hx352_0 := (HB.out.cell (World.block_lt_of_cell? w _ hx352_0)).trans hx352_0; replace hx352_1 := (HB.out.cell (World.block_lt_of_cell? w _ hx352_1)).trans hx352_1; replace hx352_0 := (cell_far (p := ⟨gb349, 0, none⟩) (by first | (rw [add_block]; exact hn352_0) | (show (Addr.add _ _).block ≠ _; rw [add_block]; exact hn352_0) | exact hn352_0) (.string ((rd_T85 l0 x7_1).f0))).trans hx352_0; replace hx352_1 := (cell_far (p := ⟨gb349, 0, none⟩) (by first | (rw [add_block]; exact hn352_0) | (show (Addr.add _ _).block ≠ _; rw [add_block]; exact hn352_0) | exact hn352_0) (.string ((rd_T85 l0 x7_1).f0))).trans hx352_1; replace hx352_0 := (cell_far (p := ⟨gb349, 1, none⟩) (by first | (rw [add_block]; exact hn352_1) | (show (Addr.add _ _).block ≠ _; rw [add_block]; exact hn352_1) | exact hn352_1) (.string ((rd_T85 l0 x7_1).f1))).trans hx352_0; replace hx352_1 := (cell_far (p := ⟨gb349, 1, none⟩) (by first | (rw [add_block]; exact hn352_1) | (show (Addr.add _ _).block ≠ _; rw [add_block]; exact hn352_1) | exact hn352_1) (.string ((rd_T85 l0 x7_1).f1))).trans hx352_1; (try have hy352_0 := fun (n_ : Nat) => (show ((((w14.drewN n_).setCell ⟨gb349, 0, none⟩ (.string ((rd_T85 l0 x7_1).f0))).setCell ⟨gb349, 1, none⟩ (.string ((rd_T85 l0 x7_1).f1)))).cell? _ = some _ from hx352_0)); (try have hy352_1 := fun (n_ : Nat) => (show ((((w14.drewN n_).setCell ⟨gb349, 0, none⟩ (.string ((rd_T85 l0 x7_1).f0))).setCell ⟨gb349, 1, none⟩ (.string ((rd_T85 l0 x7_1).f1)))).cell? _ = some _ from hx352_1)); clear hn352_0; clear hn352_1; replace p352 := eq_true p352; replace q352 := eq_true q352))))
            try (have p352 : 0 ≤ ((ji10) : Int) := oa; have q352 : (ji10) < (l0.length : Int) := oa; obtain ⟨ad352, e352, hx352_0, hx352_1⟩ := at_T85 HR0.out (ji10) p352 q352; obtain rfl : ad348 = ad352 := (by injection e352); have hn352_0 : ad348.block ≠ gb349 := Nat.ne_of_lt (Nat.lt_of_lt_of_le (by have := World.block_lt_of_cell? _ _ hx352_0; first | rwa [add_block] at this | exact this) GW349.out); have hn352_1 : ad348.block ≠ gb349 := Nat.ne_of_lt (Nat.lt_of_lt_of_le (by have := World.block_lt_of_cell? _ _ hx352_0; first | rwa [add_block] at this | exact this) GW349.out); replace hx352_0 := (HB.out.cell (World.block_lt_of_cell? w _ hx352_0)).trans hx352_0; replace hx352_1 := (HB.out.cell (World.block_lt_of_cell? w _ hx352_1)).trans hx352_1; replace hx352_0 := (cell_far (p := ⟨gb349, 0, none⟩) (by first | (rw [add_block]; exact hn352_0) | (show (Addr.add _ _).block ≠ _; rw [add_block]; exact hn352_0) | exact hn352_0) (.string ((rd_T85 l0 x7_1).f0))).trans hx352_0; replace hx352_1 := (cell_far (p := ⟨gb349, 0, none⟩) (by first | (rw [add_block]; exact hn352_0) | (show (Addr.add _ _).block ≠ _; rw [add_block]; exact hn352_0) | exact hn352_0) (.string ((rd_T85 l0 x7_1).f0))).trans hx352_1; replace hx352_0 := (cell_far (p := ⟨gb349, 1, none⟩) (by first | (rw [add_block]; exact hn352_1) | (show (Addr.add _ _).block ≠ _; rw [add_block]; exact hn352_1) | exact hn352_1) (.string ((rd_T85 l0 x7_1).f1))).trans hx352_0; replace hx352_1 := (cell_far (p := ⟨gb349, 1, none⟩) (by first | (rw [add_block]; exact hn352_1) | (show (Addr.add _ _).block ≠ _; rw [add_block]; exact hn352_1) | exact hn352_1) (.string ((rd_T85 l0 x7_1).f1))).trans hx352_1; (try have hy352_0 := fun (n_ : Nat) => (show ((((w14.drewN n_).setCell ⟨gb349, 0, none⟩ (.string ((rd_T85 l0 x7_1).f0))).setCell ⟨gb349, 1, none⟩ (.string ((rd_T85 l0 x7_1).f1)))).cell? _ = some _ from hx352_0)); (try have hy352_1 := fun (n_ : Nat) => (show ((((w14.drewN n_).setCell ⟨gb349, 0, none⟩ (.string ((rd_T85 l0 x7_1).f0))).setCell ⟨gb349, 1, none⟩ (.string ((rd_T85 l0 x7_1).f1)))).cell? _ = some _ from hx352_1)); clear hn352_0; clear hn352_1; replace p352 := eq_true p352; replace q352 := eq_true q352)
            repeat (go_quiet (first | ((with_reducible refine gate_dst (N := 4) rfl ?_); (try (refine gate_guard (by rfl) ?_; dsimp only)); refine box_event ?hg (N := 4) ?hd (cs := #[.string (⟨#[]⟩ : ByteArray), .string (⟨#[]⟩ : ByteArray)]) (t := 85) ?hr ?_; (case hd => rfl); (case hg => rfl); (case hr => first | (go_simp; done) | (go_simp; rfl)); intro gb349 hg w14 hbox hb; have n0_ := Aside0.mk (below_step oB hb); have n1_ := Aside0.mk (hbox); have n2_ := Aside0.mk ((by rw [hg]; exact (below_size oB) : w.heap.size ≤ gb349)); have n3_ := Aside0.mk ((by rw [hg]; exact (below_size oB) : w.heap.size ≤ gb349)); clear HB; have HB := n0_; have BK349 := n1_; have GW349 := n2_; have GE349 := n3_; clear n0_ n1_ n2_ n3_; clear hb hbox hg; have hcz15_0 : w14.cell? ⟨gb349, 0, none⟩ = some (.string (⟨#[]⟩ : ByteArray)) := (blk_cell BK349.out 0).trans rfl; have hcz15_1 : w14.cell? ⟨gb349, 1, none⟩ = some (.string (⟨#[]⟩ : ByteArray)) := (blk_cell BK349.out 1).trans rfl; have hfz15_0 := blk_frozen BK349.out 0; have hfz15_1 := blk_frozen BK349.out 1) | (go_at_call 92; (with_reducible refine (impl_NameOk.calls k1 ((rd_T85 l0 x7_1).f0) true _ A5.out).mono ?_); rintro e w' ⟨rfl, ⟨nd, rfl⟩⟩; (try first | exact ⟨rfl, _, World.drewN_drewN _ _ _⟩ | exact ⟨rfl, _, Eq.trans (World.drewN_drewN _ _ _) (congrArg (World.drewN _) (Nat.add_assoc _ _ _))⟩)) | (go_at_call 90; (with_reducible refine (impl_from.calls (((rd_T85 l0 x7_1).f1).size : Int) 1 16 true _ A7.out).mono ?_); rintro e w' ⟨rfl, ⟨nd, rfl⟩⟩; (first | exact ⟨rfl, _, World.drewN_drewN _ _ _⟩ | exact ⟨rfl, _, Eq.trans (World.drewN_drewN _ _ _) (congrArg (World.drewN _) (Nat.add_assoc _ _ _))⟩ | (have p352 : 0 ≤ ((ji10) : Int) := oa; have q352 : (ji10) < (l0.length : Int) := oa; obtain ⟨ad352, e352, hx352_0, hx352_1⟩ := at_T85 HR0.out (ji10) p352 q352; obtain rfl : ad348 = ad352 := (by injection e352); have hn352_0 : ad348.block ≠ gb349 := Nat.ne_of_lt (Nat.lt_of_lt_of_le (by have := World.block_lt_of_cell? _ _ hx352_0; first | rwa [add_block] at this | exact this) GW349.out); have hn352_1 : ad348.block ≠ gb349 := Nat.ne_of_lt (Nat.lt_of_lt_of_le (by have := World.block_lt_of_cell? _ _ hx352_0; first | rwa [add_block] at this | exact this) GW349.out); replace hx352_0 := (HB.out.cell (World.block_lt_of_cell? w _ hx352_0)).trans hx352_0; replace hx352_1 := (HB.out.cell (World.block_lt_of_cell? w _ hx352_1)).trans hx352_1; replace hx352_0 := (cell_far (p := ⟨gb349, 0, none⟩) (by first | (rw [add_block]; exact hn352_0) | (show (Addr.add _ _).block ≠ _; rw [add_block]; exact hn352_0) | exact hn352_0) (.string ((rd_T85 l0 x7_1).f0))).trans hx352_0; replace hx352_1 := (cell_far (p := ⟨gb349, 0, none⟩) (by first | (rw [add_block]; exact hn352_0) | (show (Addr.add _ _).block ≠ _; rw [add_block]; exact hn352_0) | exact hn352_0) (.string ((rd_T85 l0 x7_1).f0))).trans hx352_1; replace hx352_0 := (cell_far (p := ⟨gb349, 1, none⟩) (by first | (rw [add_block]; exact hn352_1) | (show (Addr.add _ _).block ≠ _; rw [add_block]; exact hn352_1) | exact hn352_1) (.string ((rd_T85 l0 x7_1).f1))).trans hx352_0; replace hx352_1 := (cell_far (p := ⟨gb349, 1, none⟩) (by first | (rw [add_block]; exact hn352_1) | (show (Addr.add _ _).block ≠ _; rw [add_block]; exact hn352_1) | exact hn352_1) (.string ((rd_T85 l0 x7_1).f1))).trans hx352_1; (try have hy352_0 := fun (n_ : Nat) => (show ((((w14.drewN n_).setCell ⟨gb349, 0, none⟩ (.string ((rd_T85 l0 x7_1).f0))).setCell ⟨gb349, 1, none⟩ (.string ((rd_T85 l0 x7_1).f1)))).cell? _ = some _ from hx352_0)); (try have hy352_1 := fun (n_ : Nat) => (show ((((w14.drewN n_).setCell ⟨gb349, 0, none⟩ (.string ((rd_T85 l0 x7_1).f0))).setCell ⟨gb349, 1, none⟩ (.string ((rd_T85 l0 x7_1).f1)))).cell? _ = some _ from hx352_1)); clear hn352_0; clear hn352_1; replace p352 := eq_true p352; replace q352 := eq_true q352)))); try go_wp2_with (first | ((with_reducible refine gate_dst (N := 4) rfl ?_); (try (refine gate_guard (by rfl) ?_; dsimp only)); refine box_event ?hg (N := 4) ?hd (cs := #[.string (⟨#[]⟩ : ByteArray), .string (⟨#[]⟩ : ByteArray)]) (t := 85) ?hr ?_; (case hd => rfl); (case hg => rfl); (case hr => first | (go_simp; done) | (go_simp; rfl)); intro gb349 hg w14 hbox hb; have n0_ := Aside0.mk (below_step oB hb); have n1_ := Aside0.mk (hbox); have n2_ := Aside0.mk ((by rw [hg]; exact (below_size oB) : w.heap.size ≤ gb349)); have n3_ := Aside0.mk ((by rw [hg]; exact (below_size oB) : w.heap.size ≤ gb349)); clear HB; have HB := n0_; have BK349 := n1_; have GW349 := n2_; have GE349 := n3_; clear n0_ n1_ n2_ n3_; clear hb hbox hg; have hcz15_0 : w14.cell? ⟨gb349, 0, none⟩ = some (.string (⟨#[]⟩ : ByteArray)) := (blk_cell BK349.out 0).trans rfl; have hcz15_1 : w14.cell? ⟨gb349, 1, none⟩ = some (.string (⟨#[]⟩ : ByteArray)) := (blk_cell BK349.out 1).trans rfl; have hfz15_0 := blk_frozen BK349.out 0; have hfz15_1 := blk_frozen BK349.out 1) | (go_at_call 92; (with_reducible refine (impl_NameOk.calls k1 ((rd_T85 l0 x7_1).f0) true _ A5.out).mono ?_); rintro e w' ⟨rfl, ⟨nd, rfl⟩⟩; (try first | exact ⟨rfl, _, World.drewN_drewN _ _ _⟩ | exact ⟨rfl, _, Eq.trans (World.drewN_drewN _ _ _) (congrArg (World.drewN _) (Nat.add_assoc _ _ _))⟩)) | (go_at_call 90; (with_reducible refine (impl_from.calls (((rd_T85 l0 x7_1).f1).size : Int) 1 16 true _ A7.out).mono ?_); rintro e w' ⟨rfl, ⟨nd, rfl⟩⟩; (first | exact ⟨rfl, _, World.drewN_drewN _ _ _⟩ | exact ⟨rfl, _, Eq.trans (World.drewN_drewN _ _ _) (congrArg (World.drewN _) (Nat.add_assoc _ _ _))⟩ | (have p352 : 0 ≤ ((ji10) : Int) := oa; have q352 : (ji10) < (l0.length : Int) := oa; obtain ⟨ad352, e352, hx352_0, hx352_1⟩ := at_T85 HR0.out (ji10) p352 q352; obtain rfl : ad348 = ad352 := (by injection e352); have hn352_0 : ad348.block ≠ gb349 := Nat.ne_of_lt (Nat.lt_of_lt_of_le (by have := World.block_lt_of_cell? _ _ hx352_0; first | rwa [add_block] at this | exact this) GW349.out); have hn352_1 : ad348.block ≠ gb349 := Nat.ne_of_lt (Nat.lt_of_lt_of_le (by have := World.block_lt_of_cell? _ _ hx352_0; first | rwa [add_block] at this | exact this) GW349.out); replace hx352_0 := (HB.out.cell (World.block_lt_of_cell? w _ hx352_0)).trans hx352_0; replace hx352_1 := (HB.out.cell (World.block_lt_of_cell? w _ hx352_1)).trans hx352_1; replace hx352_0 := (cell_far (p := ⟨gb349, 0, none⟩) (by first | (rw [add_block]; exact hn352_0) | (show (Addr.add _ _).block ≠ _; rw [add_block]; exact hn352_0) | exact hn352_0) (.string ((rd_T85 l0 x7_1).f0))).trans hx352_0; replace hx352_1 := (cell_far (p := ⟨gb349, 0, none⟩) (by first | (rw [add_block]; exact hn352_0) | (show (Addr.add _ _).block ≠ _; rw [add_block]; exact hn352_0) | exact hn352_0) (.string ((rd_T85 l0 x7_1).f0))).trans hx352_1; replace hx352_0 := (cell_far (p := ⟨gb349, 1, none⟩) (by first | (rw [add_block]; exact hn352_1) | (show (Addr.add _ _).block ≠ _; rw [add_block]; exact hn352_1) | exact hn352_1) (.string ((rd_T85 l0 x7_1).f1))).trans hx352_0; replace hx352_1 := (cell_far (p := ⟨gb349, 1, none⟩) (by first | (rw [add_block]; exact hn352_1) | (show (Addr.add _ _).block ≠ _; rw [add_block]; exact hn352_1) | exact hn352_1) (.string ((rd_T85 l0 x7_1).f1))).trans hx352_1; (try have hy352_0 := fun (n_ : Nat) => (show ((((w14.drewN n_).setCell ⟨gb349, 0, none⟩ (.string ((rd_T85 l0 x7_1).f0))).setCell ⟨gb349, 1, none⟩ (.string ((rd_T85 l0 x7_1).f1)))).cell? _ = some _ from hx352_0)); (try have hy352_1 := fun (n_ : Nat) => (show ((((w14.drewN n_).setCell ⟨gb349, 0, none⟩ (.string ((rd_T85 l0 x7_1).f0))).setCell ⟨gb349, 1, none⟩ (.string ((rd_T85 l0 x7_1).f1)))).cell? _ = some _ from hx352_1)); clear hn352_0; clear hn352_1; replace p352 := eq_true p352; replace q352 := eq_true q352)))))
            go_roundg k1
            case measure => have := HK1.out; omega
            case rel => exact ⟨(wrap64 (x7_1 + 1)), oS, H', ⟨by have := HK1.out; omega⟩, ⟨by repeat (first | (with_reducible first | exact HB.out | apply below_alloc | apply pw_below_drewN | apply below_drew1 | refine below_set ?_ GE349.out) | exact HB.out)⟩⟩
           ·rw [if_neg c13] at H
            have c13b0 : (Op.bytesLess (((rd_T85 l0 (ji10)).f0).toList) (((rd_T85 l0 x7_1).f0).toList)) = false := by simpa using c13
            clear c13
            obtain rfl := Option.some.inj H
            have p348 : 0 ≤ (x7_1 : Int) := oa
            have q348 : x7_1 < (l0.length : Int) := oa
            obtain ⟨ad348, e348, hx348_0, hx348_1⟩ := at_T85 HR0.out x7_1 p348 q348
            cases e348
            replace hx348_0 := (HB.out.cell (World.block_lt_of_cell? w _ hx348_0)).trans hx348_0
            replace hx348_1 := (HB.out.cell (World.block_lt_of_cell? w _ hx348_1)).trans hx348_1
            replace p348 := eq_true p348
            replace q348 := eq_true q348
            go_wp2_with (first | ((with_reducible refine gate_dst (N := 4) rfl ?_); (try (refine gate_guard (by rfl) ?_; dsimp only)); refine box_event ?hg (N := 4) ?hd (cs := #[.string (⟨#[]⟩ : ByteArray), .string (⟨#[]⟩ : ByteArray)]) (t := 85) ?hr ?_; (case hd => rfl); (case hg => rfl); (case hr => first | (go_simp; done) | (go_simp; rfl)); intro gb349 hg w16 hbox hb; have n0_ := Aside0.mk (below_step oB hb); have n1_ := Aside0.mk (hbox); have n2_ := Aside0.mk ((by rw [hg]; exact (below_size oB) : w.heap.size ≤ gb349)); have n3_ := Aside0.mk ((by rw [hg]; exact (below_size oB) : w.heap.size ≤ gb349)); clear HB; have HB := n0_; have BK349 := n1_; have GW349 := n2_; have GE349 := n3_; clear n0_ n1_ n2_ n3_; clear hb hbox hg; have hcz17_0 : w16.cell? ⟨gb349, 0, none⟩ = some (.string (⟨#[]⟩ : ByteArray)) := (blk_cell BK349.out 0).trans rfl; have hcz17_1 : w16.cell? ⟨gb349, 1, none⟩ = some (.string (⟨#[]⟩ : ByteArray)) := (blk_cell BK349.out 1).trans rfl; have hfz17_0 := blk_frozen BK349.out 0; have hfz17_1 := blk_frozen BK349.out 1) | (go_at_call 92; (with_reducible refine (impl_NameOk.calls k1 ((rd_T85 l0 x7_1).f0) true _ A5.out).mono ?_); rintro e w' ⟨rfl, ⟨nd, rfl⟩⟩; (try first | exact ⟨rfl, _, World.drewN_drewN _ _ _⟩ | exact ⟨rfl, _, Eq.trans (World.drewN_drewN _ _ _) (congrArg (World.drewN _) (Nat.add_assoc _ _ _))⟩)) | (go_at_call 90; (with_reducible refine (impl_from.calls (((rd_T85 l0 x7_1).f1).size : Int) 1 16 true _ A7.out).mono ?_); rintro e w' ⟨rfl, ⟨nd, rfl⟩⟩; (first | exact ⟨rfl, _, World.drewN_drewN _ _ _⟩ | exact ⟨rfl, _, Eq.trans (World.drewN_drewN _ _ _) (congrArg (World.drewN _) (Nat.add_assoc _ _ _))⟩ | (have p352 : 0 ≤ ((ji10) : Int) := oa; have q352 : (ji10) < (l0.length : Int) := oa; obtain ⟨ad352, e352, hx352_0, hx352_1⟩ := at_T85 HR0.out (ji10) p352 q352; obtain rfl : ad348 = ad352 := (by injection e352); have hn352_0 : ad348.block ≠ gb349 := Nat.ne_of_lt (Nat.lt_of_lt_of_le (by have := World.block_lt_of_cell? _ _ hx352_0; first | rwa [add_block] at this | exact this) GW349.out); have hn352_1 : ad348.block ≠ gb349 := Nat.ne_of_lt (Nat.lt_of_lt_of_le (by have := World.block_lt_of_cell? _ _ hx352_0; first | rwa [add_block] at this | exact this) GW349.out); replace hx352_0 := (HB.out.cell (World.block_lt_of_cell? w _ hx352_0)).trans hx352_0; replace hx352_1 := (HB.out.cell (World.block_lt_of_cell? w _ hx352_1)).trans hx352_1; replace hx352_0 := (cell_far (p := ⟨gb349, 0, none⟩) (by first | (rw [add_block]; exact hn352_0) | (show (Addr.add _ _).block ≠ _; rw [add_block]; exact hn352_0) | exact hn352_0) (.string ((rd_T85 l0 x7_1).f0))).trans hx352_0; replace hx352_1 := (cell_far (p := ⟨gb349, 0, none⟩) (by first | (rw [add_block]; exact hn352_0) | (show (Addr.add _ _).block ≠ _; rw [add_block]; exact hn352_0) | exact hn352_0) (.string ((rd_T85 l0 x7_1).f0))).trans hx352_1; replace hx352_0 := (cell_far (p := ⟨gb349, 1, none⟩) (by first | (rw [add_block]; exact hn352_1) | (show (Addr.add _ _).block ≠ _; rw [add_block]; exact hn352_1) | exact hn352_1) (.string ((rd_T85 l0 x7_1).f1))).trans hx352_0; replace hx352_1 := (cell_far (p := ⟨gb349, 1, none⟩) (by first | (rw [add_block]; exact hn352_1) | (show (Addr.add _ _).block ≠ _; rw [add_block]; exact hn352_1) | exact hn352_1) (.string ((rd_T85 l0 x7_1).f1))).trans hx352_1; (try have hy352_0 := fun (n_ : Nat) => (show ((((w16.drewN n_).setCell ⟨gb349, 0, none⟩ (.string ((rd_T85 l0 x7_1).f0))).setCell ⟨gb349, 1, none⟩ (.string ((rd_T85 l0 x7_1).f1)))).cell? _ = some _ from hx352_0)); (try have hy352_1 := fun (n_ : Nat) => (show ((((w16.drewN n_).setCell ⟨gb349, 0, none⟩ (.string ((rd_T85 l0 x7_1).f0))).setCell ⟨gb349, 1, none⟩ (.string ((rd_T85 l0 x7_1).f1)))).cell? _ = some _ from hx352_1)); clear hn352_0; clear hn352_1; replace p352 := eq_true p352; replace q352 := eq_true q352))))
            try (have p352 : 0 ≤ ((ji10) : Int) := oa; have q352 : (ji10) < (l0.length : Int) := oa; obtain ⟨ad352, e352, hx352_0, hx352_1⟩ := at_T85 HR0.out (ji10) p352 q352; obtain rfl : ad348 = ad352 := (by injection e352); have hn352_0 : ad348.block ≠ gb349 := Nat.ne_of_lt (Nat.lt_of_lt_of_le (by have := World.block_lt_of_cell? _ _ hx352_0; first | rwa [add_block] at this | exact this) GW349.out); have hn352_1 : ad348.block ≠ gb349 := Nat.ne_of_lt (Nat.lt_of_lt_of_le (by have := World.block_lt_of_cell? _ _ hx352_0; first | rwa [add_block] at this | exact this) GW349.out); replace hx352_0 := (HB.out.cell (World.block_lt_of_cell? w _ hx352_0)).trans hx352_0; replace hx352_1 := (HB.out.cell (World.block_lt_of_cell? w _ hx352_1)).trans hx352_1; replace hx352_0 := (cell_far (p := ⟨gb349, 0, none⟩) (by first | (rw [add_block]; exact hn352_0) | (show (Addr.add _ _).block ≠ _; rw [add_block]; exact hn352_0) | exact hn352_0) (.string ((rd_T85 l0 x7_1).f0))).trans hx352_0; replace hx352_1 := (cell_far (p := ⟨gb349, 0, none⟩) (by first | (rw [add_block]; exact hn352_0) | (show (Addr.add _ _).block ≠ _; rw [add_block]; exact hn352_0) | exact hn352_0) (.string ((rd_T85 l0 x7_1).f0))).trans hx352_1; replace hx352_0 := (cell_far (p := ⟨gb349, 1, none⟩) (by first | (rw [add_block]; exact hn352_1) | (show (Addr.add _ _).block ≠ _; rw [add_block]; exact hn352_1) | exact hn352_1) (.string ((rd_T85 l0 x7_1).f1))).trans hx352_0; replace hx352_1 := (cell_far (p := ⟨gb349, 1, none⟩) (by first | (rw [add_block]; exact hn352_1) | (show (Addr.add _ _).block ≠ _; rw [add_block]; exact hn352_1) | exact hn352_1) (.string ((rd_T85 l0 x7_1).f1))).trans hx352_1; (try have hy352_0 := fun (n_ : Nat) => (show ((((w16.drewN n_).setCell ⟨gb349, 0, none⟩ (.string ((rd_T85 l0 x7_1).f0))).setCell ⟨gb349, 1, none⟩ (.string ((rd_T85 l0 x7_1).f1)))).cell? _ = some _ from hx352_0)); (try have hy352_1 := fun (n_ : Nat) => (show ((((w16.drewN n_).setCell ⟨gb349, 0, none⟩ (.string ((rd_T85 l0 x7_1).f0))).setCell ⟨gb349, 1, none⟩ (.string ((rd_T85 l0 x7_1).f1)))).cell? _ = some _ from hx352_1)); clear hn352_0; clear hn352_1; replace p352 := eq_true p352; replace q352 := eq_true q352)
            repeat (go_quiet (first | ((with_reducible refine gate_dst (N := 4) rfl ?_); (try (refine gate_guard (by rfl) ?_; dsimp only)); refine box_event ?hg (N := 4) ?hd (cs := #[.string (⟨#[]⟩ : ByteArray), .string (⟨#[]⟩ : ByteArray)]) (t := 85) ?hr ?_; (case hd => rfl); (case hg => rfl); (case hr => first | (go_simp; done) | (go_simp; rfl)); intro gb349 hg w16 hbox hb; have n0_ := Aside0.mk (below_step oB hb); have n1_ := Aside0.mk (hbox); have n2_ := Aside0.mk ((by rw [hg]; exact (below_size oB) : w.heap.size ≤ gb349)); have n3_ := Aside0.mk ((by rw [hg]; exact (below_size oB) : w.heap.size ≤ gb349)); clear HB; have HB := n0_; have BK349 := n1_; have GW349 := n2_; have GE349 := n3_; clear n0_ n1_ n2_ n3_; clear hb hbox hg; have hcz17_0 : w16.cell? ⟨gb349, 0, none⟩ = some (.string (⟨#[]⟩ : ByteArray)) := (blk_cell BK349.out 0).trans rfl; have hcz17_1 : w16.cell? ⟨gb349, 1, none⟩ = some (.string (⟨#[]⟩ : ByteArray)) := (blk_cell BK349.out 1).trans rfl; have hfz17_0 := blk_frozen BK349.out 0; have hfz17_1 := blk_frozen BK349.out 1) | (go_at_call 92; (with_reducible refine (impl_NameOk.calls k1 ((rd_T85 l0 x7_1).f0) true _ A5.out).mono ?_); rintro e w' ⟨rfl, ⟨nd, rfl⟩⟩; (try first | exact ⟨rfl, _, World.drewN_drewN _ _ _⟩ | exact ⟨rfl, _, Eq.trans (World.drewN_drewN _ _ _) (congrArg (World.drewN _) (Nat.add_assoc _ _ _))⟩)) | (go_at_call 90; (with_reducible refine (impl_from.calls (((rd_T85 l0 x7_1).f1).size : Int) 1 16 true _ A7.out).mono ?_); rintro e w' ⟨rfl, ⟨nd, rfl⟩⟩; (first | exact ⟨rfl, _, World.drewN_drewN _ _ _⟩ | exact ⟨rfl, _, Eq.trans (World.drewN_drewN _ _ _) (congrArg (World.drewN _) (Nat.add_assoc _ _ _))⟩ | (have p352 : 0 ≤ ((ji10) : Int) := oa; have q352 : (ji10) < (l0.length : Int) := oa; obtain ⟨ad352, e352, hx352_0, hx352_1⟩ := at_T85 HR0.out (ji10) p352 q352; obtain rfl : ad348 = ad352 := (by injection e352); have hn352_0 : ad348.block ≠ gb349 := Nat.ne_of_lt (Nat.lt_of_lt_of_le (by have := World.block_lt_of_cell? _ _ hx352_0; first | rwa [add_block] at this | exact this) GW349.out); have hn352_1 : ad348.block ≠ gb349 := Nat.ne_of_lt (Nat.lt_of_lt_of_le (by have := World.block_lt_of_cell? _ _ hx352_0; first | rwa [add_block] at this | exact this) GW349.out); replace hx352_0 := (HB.out.cell (World.block_lt_of_cell? w _ hx352_0)).trans hx352_0; replace hx352_1 := (HB.out.cell (World.block_lt_of_cell? w _ hx352_1)).trans hx352_1; replace hx352_0 := (cell_far (p := ⟨gb349, 0, none⟩) (by first | (rw [add_block]; exact hn352_0) | (show (Addr.add _ _).block ≠ _; rw [add_block]; exact hn352_0) | exact hn352_0) (.string ((rd_T85 l0 x7_1).f0))).trans hx352_0; replace hx352_1 := (cell_far (p := ⟨gb349, 0, none⟩) (by first | (rw [add_block]; exact hn352_0) | (show (Addr.add _ _).block ≠ _; rw [add_block]; exact hn352_0) | exact hn352_0) (.string ((rd_T85 l0 x7_1).f0))).trans hx352_1; replace hx352_0 := (cell_far (p := ⟨gb349, 1, none⟩) (by first | (rw [add_block]; exact hn352_1) | (show (Addr.add _ _).block ≠ _; rw [add_block]; exact hn352_1) | exact hn352_1) (.string ((rd_T85 l0 x7_1).f1))).trans hx352_0; replace hx352_1 := (cell_far (p := ⟨gb349, 1, none⟩) (by first | (rw [add_block]; exact hn352_1) | (show (Addr.add _ _).block ≠ _; rw [add_block]; exact hn352_1) | exact hn352_1) (.string ((rd_T85 l0 x7_1).f1))).trans hx352_1; (try have hy352_0 := fun (n_ : Nat) => (show ((((w16.drewN n_).setCell ⟨gb349, 0, none⟩ (.string ((rd_T85 l0 x7_1).f0))).setCell ⟨gb349, 1, none⟩ (.string ((rd_T85 l0 x7_1).f1)))).cell? _ = some _ from hx352_0)); (try have hy352_1 := fun (n_ : Nat) => (show ((((w16.drewN n_).setCell ⟨gb349, 0, none⟩ (.string ((rd_T85 l0 x7_1).f0))).setCell ⟨gb349, 1, none⟩ (.string ((rd_T85 l0 x7_1).f1)))).cell? _ = some _ from hx352_1)); clear hn352_0; clear hn352_1; replace p352 := eq_true p352; replace q352 := eq_true q352)))); try go_wp2_with (first | ((with_reducible refine gate_dst (N := 4) rfl ?_); (try (refine gate_guard (by rfl) ?_; dsimp only)); refine box_event ?hg (N := 4) ?hd (cs := #[.string (⟨#[]⟩ : ByteArray), .string (⟨#[]⟩ : ByteArray)]) (t := 85) ?hr ?_; (case hd => rfl); (case hg => rfl); (case hr => first | (go_simp; done) | (go_simp; rfl)); intro gb349 hg w16 hbox hb; have n0_ := Aside0.mk (below_step oB hb); have n1_ := Aside0.mk (hbox); have n2_ := Aside0.mk ((by rw [hg]; exact (below_size oB) : w.heap.size ≤ gb349)); have n3_ := Aside0.mk ((by rw [hg]; exact (below_size oB) : w.heap.size ≤ gb349)); clear HB; have HB := n0_; have BK349 := n1_; have GW349 := n2_; have GE349 := n3_; clear n0_ n1_ n2_ n3_; clear hb hbox hg; have hcz17_0 : w16.cell? ⟨gb349, 0, none⟩ = some (.string (⟨#[]⟩ : ByteArray)) := (blk_cell BK349.out 0).trans rfl; have hcz17_1 : w16.cell? ⟨gb349, 1, none⟩ = some (.string (⟨#[]⟩ : ByteArray)) := (blk_cell BK349.out 1).trans rfl; have hfz17_0 := blk_frozen BK349.out 0; have hfz17_1 := blk_frozen BK349.out 1) | (go_at_call 92; (with_reducible refine (impl_NameOk.calls k1 ((rd_T85 l0 x7_1).f0) true _ A5.out).mono ?_); rintro e w' ⟨rfl, ⟨nd, rfl⟩⟩; (try first | exact ⟨rfl, _, World.drewN_drewN _ _ _⟩ | exact ⟨rfl, _, Eq.trans (World.drewN_drewN _ _ _) (congrArg (World.drewN _) (Nat.add_assoc _ _ _))⟩)) | (go_at_call 90; (with_reducible refine (impl_from.calls (((rd_T85 l0 x7_1).f1).size : Int) 1 16 true _ A7.out).mono ?_); rintro e w' ⟨rfl, ⟨nd, rfl⟩⟩; (first | exact ⟨rfl, _, World.drewN_drewN _ _ _⟩ | exact ⟨rfl, _, Eq.trans (World.drewN_drewN _ _ _) (congrArg (World.drewN _) (Nat.add_assoc _ _ _))⟩ | (have p352 : 0 ≤ ((ji10) : Int) := oa; have q352 : (ji10) < (l0.length : Int) := oa; obtain ⟨ad352, e352, hx352_0, hx352_1⟩ := at_T85 HR0.out (ji10) p352 q352; obtain rfl : ad348 = ad352 := (by injection e352); have hn352_0 : ad348.block ≠ gb349 := Nat.ne_of_lt (Nat.lt_of_lt_of_le (by have := World.block_lt_of_cell? _ _ hx352_0; first | rwa [add_block] at this | exact this) GW349.out); have hn352_1 : ad348.block ≠ gb349 := Nat.ne_of_lt (Nat.lt_of_lt_of_le (by have := World.block_lt_of_cell? _ _ hx352_0; first | rwa [add_block] at this | exact this) GW349.out); replace hx352_0 := (HB.out.cell (World.block_lt_of_cell? w _ hx352_0)).trans hx352_0; replace hx352_1 := (HB.out.cell (World.block_lt_of_cell? w _ hx352_1)).trans hx352_1; replace hx352_0 := (cell_far (p := ⟨gb349, 0, none⟩) (by first | (rw [add_block]; exact hn352_0) | (show (Addr.add _ _).block ≠ _; rw [add_block]; exact hn352_0) | exact hn352_0) (.string ((rd_T85 l0 x7_1).f0))).trans hx352_0; replace hx352_1 := (cell_far (p := ⟨gb349, 0, none⟩) (by first | (rw [add_block]; exact hn352_0) | (show (Addr.add _ _).block ≠ _; rw [add_block]; exact hn352_0) | exact hn352_0) (.string ((rd_T85 l0 x7_1).f0))).trans hx352_1; replace hx352_0 := (cell_far (p := ⟨gb349, 1, none⟩) (by first | (rw [add_block]; exact hn352_1) | (show (Addr.add _ _).block ≠ _; rw [add_block]; exact hn352_1) | exact hn352_1) (.string ((rd_T85 l0 x7_1).f1))).trans hx352_0; replace hx352_1 := (cell_far (p := ⟨gb349, 1, none⟩) (by first | (rw [add_block]; exact hn352_1) | (show (Addr.add _ _).block ≠ _; rw [add_block]; exact hn352_1) | exact hn352_1) (.string ((rd_T85 l0 x7_1).f1))).trans hx352_1; (try have hy352_0 := fun (n_ : Nat) => (show ((((w16.drewN n_).setCell ⟨gb349, 0, none⟩ (.string ((rd_T85 l0 x7_1).f0))).setCell ⟨gb349, 1, none⟩ (.string ((rd_T85 l0 x7_1).f1)))).cell? _ = some _ from hx352_0)); (try have hy352_1 := fun (n_ : Nat) => (show ((((w16.drewN n_).setCell ⟨gb349, 0, none⟩ (.string ((rd_T85 l0 x7_1).f0))).setCell ⟨gb349, 1, none⟩ (.string ((rd_T85 l0 x7_1).f1)))).cell? _ = some _ from hx352_1)); clear hn352_0; clear hn352_1; replace p352 := eq_true p352; replace q352 := eq_true q352)))))
            go_ret
            exact ⟨by first | rfl | (simp [errW_none, errW_some] <;> rfl) | (simp only [← hji10]; first | rfl | (simp [errW_none, errW_some] <;> rfl)) | (simp [*, errW_none, errW_some] <;> rfl), by repeat (first | (with_reducible first | exact HB.out | apply below_alloc | apply pw_below_drewN | apply below_drew1 | refine below_set ?_ GE349.out) | exact HB.out)⟩
          ·rw [if_neg c12] at H
           exact absurd H (by simp)
         ·rw [if_neg c11] at H
          exact absurd H (by simp)
        ·rw [if_neg c9] at H
         have c9b0 : decide (0 < x7_1) = false := decide_eq_false c9
         clear c9
         have H' := Aside0.mk H
         clear H
         have p348 : 0 ≤ (x7_1 : Int) := oa
         have q348 : x7_1 < (l0.length : Int) := oa
         obtain ⟨ad348, e348, hx348_0, hx348_1⟩ := at_T85 HR0.out x7_1 p348 q348
         cases e348
         replace hx348_0 := (HB.out.cell (World.block_lt_of_cell? w _ hx348_0)).trans hx348_0
         replace hx348_1 := (HB.out.cell (World.block_lt_of_cell? w _ hx348_1)).trans hx348_1
         replace p348 := eq_true p348
         replace q348 := eq_true q348
         go_wp2_with (first | ((with_reducible refine gate_dst (N := 4) rfl ?_); (try (refine gate_guard (by rfl) ?_; dsimp only)); refine box_event ?hg (N := 4) ?hd (cs := #[.string (⟨#[]⟩ : ByteArray), .string (⟨#[]⟩ : ByteArray)]) (t := 85) ?hr ?_; (case hd => rfl); (case hg => rfl); (case hr => first | (go_simp; done) | (go_simp; rfl)); intro gb349 hg w18 hbox hb; have n0_ := Aside0.mk (below_step oB hb); have n1_ := Aside0.mk (hbox); have n2_ := Aside0.mk ((by rw [hg]; exact (below_size oB) : w.heap.size ≤ gb349)); have n3_ := Aside0.mk ((by rw [hg]; exact (below_size oB) : w.heap.size ≤ gb349)); clear HB; have HB := n0_; have BK349 := n1_; have GW349 := n2_; have GE349 := n3_; clear n0_ n1_ n2_ n3_; clear hb hbox hg; have hcz19_0 : w18.cell? ⟨gb349, 0, none⟩ = some (.string (⟨#[]⟩ : ByteArray)) := (blk_cell BK349.out 0).trans rfl; have hcz19_1 : w18.cell? ⟨gb349, 1, none⟩ = some (.string (⟨#[]⟩ : ByteArray)) := (blk_cell BK349.out 1).trans rfl; have hfz19_0 := blk_frozen BK349.out 0; have hfz19_1 := blk_frozen BK349.out 1) | (go_at_call 92; (with_reducible refine (impl_NameOk.calls k1 ((rd_T85 l0 x7_1).f0) true _ A5.out).mono ?_); rintro e w' ⟨rfl, ⟨nd, rfl⟩⟩; (try first | exact ⟨rfl, _, World.drewN_drewN _ _ _⟩ | exact ⟨rfl, _, Eq.trans (World.drewN_drewN _ _ _) (congrArg (World.drewN _) (Nat.add_assoc _ _ _))⟩)) | (go_at_call 90; (with_reducible refine (impl_from.calls (((rd_T85 l0 x7_1).f1).size : Int) 1 16 true _ A7.out).mono ?_); rintro e w' ⟨rfl, ⟨nd, rfl⟩⟩; (try first | exact ⟨rfl, _, World.drewN_drewN _ _ _⟩ | exact ⟨rfl, _, Eq.trans (World.drewN_drewN _ _ _) (congrArg (World.drewN _) (Nat.add_assoc _ _ _))⟩)))
         repeat (go_quiet (first | ((with_reducible refine gate_dst (N := 4) rfl ?_); (try (refine gate_guard (by rfl) ?_; dsimp only)); refine box_event ?hg (N := 4) ?hd (cs := #[.string (⟨#[]⟩ : ByteArray), .string (⟨#[]⟩ : ByteArray)]) (t := 85) ?hr ?_; (case hd => rfl); (case hg => rfl); (case hr => first | (go_simp; done) | (go_simp; rfl)); intro gb349 hg w18 hbox hb; have n0_ := Aside0.mk (below_step oB hb); have n1_ := Aside0.mk (hbox); have n2_ := Aside0.mk ((by rw [hg]; exact (below_size oB) : w.heap.size ≤ gb349)); have n3_ := Aside0.mk ((by rw [hg]; exact (below_size oB) : w.heap.size ≤ gb349)); clear HB; have HB := n0_; have BK349 := n1_; have GW349 := n2_; have GE349 := n3_; clear n0_ n1_ n2_ n3_; clear hb hbox hg; have hcz19_0 : w18.cell? ⟨gb349, 0, none⟩ = some (.string (⟨#[]⟩ : ByteArray)) := (blk_cell BK349.out 0).trans rfl; have hcz19_1 : w18.cell? ⟨gb349, 1, none⟩ = some (.string (⟨#[]⟩ : ByteArray)) := (blk_cell BK349.out 1).trans rfl; have hfz19_0 := blk_frozen BK349.out 0; have hfz19_1 := blk_frozen BK349.out 1) | (go_at_call 92; (with_reducible refine (impl_NameOk.calls k1 ((rd_T85 l0 x7_1).f0) true _ A5.out).mono ?_); rintro e w' ⟨rfl, ⟨nd, rfl⟩⟩; (try first | exact ⟨rfl, _, World.drewN_drewN _ _ _⟩ | exact ⟨rfl, _, Eq.trans (World.drewN_drewN _ _ _) (congrArg (World.drewN _) (Nat.add_assoc _ _ _))⟩)) | (go_at_call 90; (with_reducible refine (impl_from.calls (((rd_T85 l0 x7_1).f1).size : Int) 1 16 true _ A7.out).mono ?_); rintro e w' ⟨rfl, ⟨nd, rfl⟩⟩; (try first | exact ⟨rfl, _, World.drewN_drewN _ _ _⟩ | exact ⟨rfl, _, Eq.trans (World.drewN_drewN _ _ _) (congrArg (World.drewN _) (Nat.add_assoc _ _ _))⟩))); try go_wp2_with (first | ((with_reducible refine gate_dst (N := 4) rfl ?_); (try (refine gate_guard (by rfl) ?_; dsimp only)); refine box_event ?hg (N := 4) ?hd (cs := #[.string (⟨#[]⟩ : ByteArray), .string (⟨#[]⟩ : ByteArray)]) (t := 85) ?hr ?_; (case hd => rfl); (case hg => rfl); (case hr => first | (go_simp; done) | (go_simp; rfl)); intro gb349 hg w18 hbox hb; have n0_ := Aside0.mk (below_step oB hb); have n1_ := Aside0.mk (hbox); have n2_ := Aside0.mk ((by rw [hg]; exact (below_size oB) : w.heap.size ≤ gb349)); have n3_ := Aside0.mk ((by rw [hg]; exact (below_size oB) : w.heap.size ≤ gb349)); clear HB; have HB := n0_; have BK349 := n1_; have GW349 := n2_; have GE349 := n3_; clear n0_ n1_ n2_ n3_; clear hb hbox hg; have hcz19_0 : w18.cell? ⟨gb349, 0, none⟩ = some (.string (⟨#[]⟩ : ByteArray)) := (blk_cell BK349.out 0).trans rfl; have hcz19_1 : w18.cell? ⟨gb349, 1, none⟩ = some (.string (⟨#[]⟩ : ByteArray)) := (blk_cell BK349.out 1).trans rfl; have hfz19_0 := blk_frozen BK349.out 0; have hfz19_1 := blk_frozen BK349.out 1) | (go_at_call 92; (with_reducible refine (impl_NameOk.calls k1 ((rd_T85 l0 x7_1).f0) true _ A5.out).mono ?_); rintro e w' ⟨rfl, ⟨nd, rfl⟩⟩; (try first | exact ⟨rfl, _, World.drewN_drewN _ _ _⟩ | exact ⟨rfl, _, Eq.trans (World.drewN_drewN _ _ _) (congrArg (World.drewN _) (Nat.add_assoc _ _ _))⟩)) | (go_at_call 90; (with_reducible refine (impl_from.calls (((rd_T85 l0 x7_1).f1).size : Int) 1 16 true _ A7.out).mono ?_); rintro e w' ⟨rfl, ⟨nd, rfl⟩⟩; (try first | exact ⟨rfl, _, World.drewN_drewN _ _ _⟩ | exact ⟨rfl, _, Eq.trans (World.drewN_drewN _ _ _) (congrArg (World.drewN _) (Nat.add_assoc _ _ _))⟩))))
         go_roundg k1
         case measure => have := HK1.out; omega
         case rel => exact ⟨(wrap64 (x7_1 + 1)), oS, H', ⟨by have := HK1.out; omega⟩, ⟨by repeat (first | (with_reducible first | exact HB.out | apply below_alloc | apply pw_below_drewN | apply below_drew1 | refine below_set ?_ GE349.out) | exact HB.out)⟩⟩
       ·replace c8 := Bool.eq_false_iff.mpr c8
        subst c8
        have H1 : (some false) = some r := by rw [if_neg (show ¬ (false = true) by decide)] at H; exact H
        clear H
        have H := H1
        clear H1
        obtain rfl := Option.some.inj H
        have p348 : 0 ≤ (x7_1 : Int) := oa
        have q348 : x7_1 < (l0.length : Int) := oa
        obtain ⟨ad348, e348, hx348_0, hx348_1⟩ := at_T85 HR0.out x7_1 p348 q348
        cases e348
        replace hx348_0 := (HB.out.cell (World.block_lt_of_cell? w _ hx348_0)).trans hx348_0
        replace hx348_1 := (HB.out.cell (World.block_lt_of_cell? w _ hx348_1)).trans hx348_1
        replace p348 := eq_true p348
        replace q348 := eq_true q348
        go_wp2_with (first | ((with_reducible refine gate_dst (N := 4) rfl ?_); (try (refine gate_guard (by rfl) ?_; dsimp only)); refine box_event ?hg (N := 4) ?hd (cs := #[.string (⟨#[]⟩ : ByteArray), .string (⟨#[]⟩ : ByteArray)]) (t := 85) ?hr ?_; (case hd => rfl); (case hg => rfl); (case hr => first | (go_simp; done) | (go_simp; rfl)); intro gb349 hg w20 hbox hb; have n0_ := Aside0.mk (below_step oB hb); have n1_ := Aside0.mk (hbox); have n2_ := Aside0.mk ((by rw [hg]; exact (below_size oB) : w.heap.size ≤ gb349)); have n3_ := Aside0.mk ((by rw [hg]; exact (below_size oB) : w.heap.size ≤ gb349)); clear HB; have HB := n0_; have BK349 := n1_; have GW349 := n2_; have GE349 := n3_; clear n0_ n1_ n2_ n3_; clear hb hbox hg; have hcz21_0 : w20.cell? ⟨gb349, 0, none⟩ = some (.string (⟨#[]⟩ : ByteArray)) := (blk_cell BK349.out 0).trans rfl; have hcz21_1 : w20.cell? ⟨gb349, 1, none⟩ = some (.string (⟨#[]⟩ : ByteArray)) := (blk_cell BK349.out 1).trans rfl; have hfz21_0 := blk_frozen BK349.out 0; have hfz21_1 := blk_frozen BK349.out 1) | (go_at_call 92; (with_reducible refine (impl_NameOk.calls k1 ((rd_T85 l0 x7_1).f0) true _ A5.out).mono ?_); rintro e w' ⟨rfl, ⟨nd, rfl⟩⟩; (try first | exact ⟨rfl, _, World.drewN_drewN _ _ _⟩ | exact ⟨rfl, _, Eq.trans (World.drewN_drewN _ _ _) (congrArg (World.drewN _) (Nat.add_assoc _ _ _))⟩)) | (go_at_call 90; (with_reducible refine (impl_from.calls (((rd_T85 l0 x7_1).f1).size : Int) 1 16 false _ A7.out).mono ?_); rintro e w' ⟨rfl, ⟨nd, rfl⟩⟩; (try first | exact ⟨rfl, _, World.drewN_drewN _ _ _⟩ | exact ⟨rfl, _, Eq.trans (World.drewN_drewN _ _ _) (congrArg (World.drewN _) (Nat.add_assoc _ _ _))⟩)))
        repeat (go_quiet (first | ((with_reducible refine gate_dst (N := 4) rfl ?_); (try (refine gate_guard (by rfl) ?_; dsimp only)); refine box_event ?hg (N := 4) ?hd (cs := #[.string (⟨#[]⟩ : ByteArray), .string (⟨#[]⟩ : ByteArray)]) (t := 85) ?hr ?_; (case hd => rfl); (case hg => rfl); (case hr => first | (go_simp; done) | (go_simp; rfl)); intro gb349 hg w20 hbox hb; have n0_ := Aside0.mk (below_step oB hb); have n1_ := Aside0.mk (hbox); have n2_ := Aside0.mk ((by rw [hg]; exact (below_size oB) : w.heap.size ≤ gb349)); have n3_ := Aside0.mk ((by rw [hg]; exact (below_size oB) : w.heap.size ≤ gb349)); clear HB; have HB := n0_; have BK349 := n1_; have GW349 := n2_; have GE349 := n3_; clear n0_ n1_ n2_ n3_; clear hb hbox hg; have hcz21_0 : w20.cell? ⟨gb349, 0, none⟩ = some (.string (⟨#[]⟩ : ByteArray)) := (blk_cell BK349.out 0).trans rfl; have hcz21_1 : w20.cell? ⟨gb349, 1, none⟩ = some (.string (⟨#[]⟩ : ByteArray)) := (blk_cell BK349.out 1).trans rfl; have hfz21_0 := blk_frozen BK349.out 0; have hfz21_1 := blk_frozen BK349.out 1) | (go_at_call 92; (with_reducible refine (impl_NameOk.calls k1 ((rd_T85 l0 x7_1).f0) true _ A5.out).mono ?_); rintro e w' ⟨rfl, ⟨nd, rfl⟩⟩; (try first | exact ⟨rfl, _, World.drewN_drewN _ _ _⟩ | exact ⟨rfl, _, Eq.trans (World.drewN_drewN _ _ _) (congrArg (World.drewN _) (Nat.add_assoc _ _ _))⟩)) | (go_at_call 90; (with_reducible refine (impl_from.calls (((rd_T85 l0 x7_1).f1).size : Int) 1 16 false _ A7.out).mono ?_); rintro e w' ⟨rfl, ⟨nd, rfl⟩⟩; (try first | exact ⟨rfl, _, World.drewN_drewN _ _ _⟩ | exact ⟨rfl, _, Eq.trans (World.drewN_drewN _ _ _) (congrArg (World.drewN _) (Nat.add_assoc _ _ _))⟩))); try go_wp2_with (first | ((with_reducible refine gate_dst (N := 4) rfl ?_); (try (refine gate_guard (by rfl) ?_; dsimp only)); refine box_event ?hg (N := 4) ?hd (cs := #[.string (⟨#[]⟩ : ByteArray), .string (⟨#[]⟩ : ByteArray)]) (t := 85) ?hr ?_; (case hd => rfl); (case hg => rfl); (case hr => first | (go_simp; done) | (go_simp; rfl)); intro gb349 hg w20 hbox hb; have n0_ := Aside0.mk (below_step oB hb); have n1_ := Aside0.mk (hbox); have n2_ := Aside0.mk ((by rw [hg]; exact (below_size oB) : w.heap.size ≤ gb349)); have n3_ := Aside0.mk ((by rw [hg]; exact (below_size oB) : w.heap.size ≤ gb349)); clear HB; have HB := n0_; have BK349 := n1_; have GW349 := n2_; have GE349 := n3_; clear n0_ n1_ n2_ n3_; clear hb hbox hg; have hcz21_0 : w20.cell? ⟨gb349, 0, none⟩ = some (.string (⟨#[]⟩ : ByteArray)) := (blk_cell BK349.out 0).trans rfl; have hcz21_1 : w20.cell? ⟨gb349, 1, none⟩ = some (.string (⟨#[]⟩ : ByteArray)) := (blk_cell BK349.out 1).trans rfl; have hfz21_0 := blk_frozen BK349.out 0; have hfz21_1 := blk_frozen BK349.out 1) | (go_at_call 92; (with_reducible refine (impl_NameOk.calls k1 ((rd_T85 l0 x7_1).f0) true _ A5.out).mono ?_); rintro e w' ⟨rfl, ⟨nd, rfl⟩⟩; (try first | exact ⟨rfl, _, World.drewN_drewN _ _ _⟩ | exact ⟨rfl, _, Eq.trans (World.drewN_drewN _ _ _) (congrArg (World.drewN _) (Nat.add_assoc _ _ _))⟩)) | (go_at_call 90; (with_reducible refine (impl_from.calls (((rd_T85 l0 x7_1).f1).size : Int) 1 16 false _ A7.out).mono ?_); rintro e w' ⟨rfl, ⟨nd, rfl⟩⟩; (try first | exact ⟨rfl, _, World.drewN_drewN _ _ _⟩ | exact ⟨rfl, _, Eq.trans (World.drewN_drewN _ _ _) (congrArg (World.drewN _) (Nat.add_assoc _ _ _))⟩))))
        go_ret
        exact ⟨oE, by repeat (first | (with_reducible first | exact HB.out | apply below_alloc | apply pw_below_drewN | apply below_drew1 | refine below_set ?_ GE349.out) | exact HB.out)⟩
      ·replace c6 := Bool.eq_false_iff.mpr c6
       subst c6
       have H1 : (some false) = some r := by rw [if_neg (show ¬ (false = true) by decide)] at H; exact H
       clear H
       have H := H1
       clear H1
       obtain rfl := Option.some.inj H
       have p348 : 0 ≤ (x7_1 : Int) := oa
       have q348 : x7_1 < (l0.length : Int) := oa
       obtain ⟨ad348, e348, hx348_0, hx348_1⟩ := at_T85 HR0.out x7_1 p348 q348
       cases e348
       replace hx348_0 := (HB.out.cell (World.block_lt_of_cell? w _ hx348_0)).trans hx348_0
       replace hx348_1 := (HB.out.cell (World.block_lt_of_cell? w _ hx348_1)).trans hx348_1
       replace p348 := eq_true p348
       replace q348 := eq_true q348
       go_wp2_with (first | ((with_reducible refine gate_dst (N := 4) rfl ?_); (try (refine gate_guard (by rfl) ?_; dsimp only)); refine box_event ?hg (N := 4) ?hd (cs := #[.string (⟨#[]⟩ : ByteArray), .string (⟨#[]⟩ : ByteArray)]) (t := 85) ?hr ?_; (case hd => rfl); (case hg => rfl); (case hr => first | (go_simp; done) | (go_simp; rfl)); intro gb349 hg w22 hbox hb; have n0_ := Aside0.mk (below_step oB hb); have n1_ := Aside0.mk (hbox); have n2_ := Aside0.mk ((by rw [hg]; exact (below_size oB) : w.heap.size ≤ gb349)); have n3_ := Aside0.mk ((by rw [hg]; exact (below_size oB) : w.heap.size ≤ gb349)); clear HB; have HB := n0_; have BK349 := n1_; have GW349 := n2_; have GE349 := n3_; clear n0_ n1_ n2_ n3_; clear hb hbox hg; have hcz23_0 : w22.cell? ⟨gb349, 0, none⟩ = some (.string (⟨#[]⟩ : ByteArray)) := (blk_cell BK349.out 0).trans rfl; have hcz23_1 : w22.cell? ⟨gb349, 1, none⟩ = some (.string (⟨#[]⟩ : ByteArray)) := (blk_cell BK349.out 1).trans rfl; have hfz23_0 := blk_frozen BK349.out 0; have hfz23_1 := blk_frozen BK349.out 1) | (go_at_call 92; (with_reducible refine (impl_NameOk.calls k1 ((rd_T85 l0 x7_1).f0) false _ A5.out).mono ?_); rintro e w' ⟨rfl, ⟨nd, rfl⟩⟩; (try first | exact ⟨rfl, _, World.drewN_drewN _ _ _⟩ | exact ⟨rfl, _, Eq.trans (World.drewN_drewN _ _ _) (congrArg (World.drewN _) (Nat.add_assoc _ _ _))⟩)))
       repeat (go_quiet (first | ((with_reducible refine gate_dst (N := 4) rfl ?_); (try (refine gate_guard (by rfl) ?_; dsimp only)); refine box_event ?hg (N := 4) ?hd (cs := #[.string (⟨#[]⟩ : ByteArray), .string (⟨#[]⟩ : ByteArray)]) (t := 85) ?hr ?_; (case hd => rfl); (case hg => rfl); (case hr => first | (go_simp; done) | (go_simp; rfl)); intro gb349 hg w22 hbox hb; have n0_ := Aside0.mk (below_step oB hb); have n1_ := Aside0.mk (hbox); have n2_ := Aside0.mk ((by rw [hg]; exact (below_size oB) : w.heap.size ≤ gb349)); have n3_ := Aside0.mk ((by rw [hg]; exact (below_size oB) : w.heap.size ≤ gb349)); clear HB; have HB := n0_; have BK349 := n1_; have GW349 := n2_; have GE349 := n3_; clear n0_ n1_ n2_ n3_; clear hb hbox hg; have hcz23_0 : w22.cell? ⟨gb349, 0, none⟩ = some (.string (⟨#[]⟩ : ByteArray)) := (blk_cell BK349.out 0).trans rfl; have hcz23_1 : w22.cell? ⟨gb349, 1, none⟩ = some (.string (⟨#[]⟩ : ByteArray)) := (blk_cell BK349.out 1).trans rfl; have hfz23_0 := blk_frozen BK349.out 0; have hfz23_1 := blk_frozen BK349.out 1) | (go_at_call 92; (with_reducible refine (impl_NameOk.calls k1 ((rd_T85 l0 x7_1).f0) false _ A5.out).mono ?_); rintro e w' ⟨rfl, ⟨nd, rfl⟩⟩; (try first | exact ⟨rfl, _, World.drewN_drewN _ _ _⟩ | exact ⟨rfl, _, Eq.trans (World.drewN_drewN _ _ _) (congrArg (World.drewN _) (Nat.add_assoc _ _ _))⟩))); try go_wp2_with (first | ((with_reducible refine gate_dst (N := 4) rfl ?_); (try (refine gate_guard (by rfl) ?_; dsimp only)); refine box_event ?hg (N := 4) ?hd (cs := #[.string (⟨#[]⟩ : ByteArray), .string (⟨#[]⟩ : ByteArray)]) (t := 85) ?hr ?_; (case hd => rfl); (case hg => rfl); (case hr => first | (go_simp; done) | (go_simp; rfl)); intro gb349 hg w22 hbox hb; have n0_ := Aside0.mk (below_step oB hb); have n1_ := Aside0.mk (hbox); have n2_ := Aside0.mk ((by rw [hg]; exact (below_size oB) : w.heap.size ≤ gb349)); have n3_ := Aside0.mk ((by rw [hg]; exact (below_size oB) : w.heap.size ≤ gb349)); clear HB; have HB := n0_; have BK349 := n1_; have GW349 := n2_; have GE349 := n3_; clear n0_ n1_ n2_ n3_; clear hb hbox hg; have hcz23_0 : w22.cell? ⟨gb349, 0, none⟩ = some (.string (⟨#[]⟩ : ByteArray)) := (blk_cell BK349.out 0).trans rfl; have hcz23_1 : w22.cell? ⟨gb349, 1, none⟩ = some (.string (⟨#[]⟩ : ByteArray)) := (blk_cell BK349.out 1).trans rfl; have hfz23_0 := blk_frozen BK349.out 0; have hfz23_1 := blk_frozen BK349.out 1) | (go_at_call 92; (with_reducible refine (impl_NameOk.calls k1 ((rd_T85 l0 x7_1).f0) false _ A5.out).mono ?_); rintro e w' ⟨rfl, ⟨nd, rfl⟩⟩; (try first | exact ⟨rfl, _, World.drewN_drewN _ _ _⟩ | exact ⟨rfl, _, Eq.trans (World.drewN_drewN _ _ _) (congrArg (World.drewN _) (Nat.add_assoc _ _ _))⟩))))
       go_ret
       exact ⟨oE, by repeat (first | (with_reducible first | exact HB.out | apply below_alloc | apply pw_below_drewN | apply below_drew1 | refine below_set ?_ GE349.out) | exact HB.out)⟩
     ·rw [if_neg c4] at H
      exact absurd H (by simp)
    ·rw [if_neg c3] at H
     exact absurd H (by simp)
   ·rw [if_neg c2] at H
    have c2b0 : decide (x7_1 < (l0.length : Int)) = false := decide_eq_false c2
    clear c2
    obtain rfl := Option.some.inj H
    go_wp2
    repeat (go_quiet (fail); try go_wp2)
    go_ret
    exact ⟨oE, oB⟩

/-! ### impl_InodeOk: function 38 -/
mutual
def impl_InodeOk.j0 : Nat → Bool → Int → Int → Int → List Int → List (S83) → List (S85) → Option (Bool)
 | 0, _, _, _, _, _, _, _ => none
 | k + 1, x26, x354000, x354001, x354002, x354003, x354004, x354005 => if x26 = true then (some false) else (impl_InodeOk.l0 k x354004 (x354004.length : Int) 0 x354000 x354001 x354002 x354003 x354004 x354005)
def impl_InodeOk.l0 : Nat → List (S83) → Int → Int → Int → Int → Int → List Int → List (S83) → List (S85) → Option (Bool)
 | 0, _, _, _, _, _, _, _, _, _ => none
 | k + 1, x28, x29, x30, x354000, x354001, x354002, x354003, x354004, x354005 => if x30 < x29 then (if 0 ≤ x30 then (if x30 < (x28.length : Int) then ((impl_NameOk.f k ((rd_T83 x28 x30).f0)).bind fun t358 => (if t358 = true then ((impl_from.f ((rd_T83 x28 x30).f1) 2 1000).bind fun t359 => (if t359 = true then (if x30 > 0 then (if 0 ≤ (wrap64 (x30 - 1)) then (if (wrap64 (x30 - 1)) < (x354004.length : Int) then (if ((Op.bytesLess (((rd_T83 x354004 (wrap64 (x30 - 1))).f0).toList) (((rd_T83 x28 x30).f0).toList)) = true) then (impl_InodeOk.l0 k x28 x29 (wrap64 (x30 + 1)) x354000 x354001 x354002 x354003 x354004 x354005) else (some false)) else (none)) else (none)) else (impl_InodeOk.l0 k x28 x29 (wrap64 (x30 + 1)) x354000 x354001 x354002 x354003 x354004 x354005)) else (some false))) else (some false))) else (none)) else (none)) else ((impl_from.f x354002 0 1000).bind fun t361 => (if t361 = true then (impl_InodeOk.j2 k ((x354002 == 0) != (x354000 == 1)) x354000 x354001 x354002 x354003 x354004 x354005) else (impl_InodeOk.j2 k true x354000 x354001 x354002 x354003 x354004 x354005)))
def impl_InodeOk.j2 : Nat → Bool → Int → Int → Int → List Int → List (S83) → List (S85) → Option (Bool)
 | 0, _, _, _, _, _, _, _ => none
 | k + 1, x74, x354000, x354001, x354002, x354003, x354004, x354005 => if x74 = true then (some false) else (if x354001 = 1 then (some ((x354004.length : Int) == 0)) else (if x354001 = 2 then (if (x354003.length : Int) = 0 then (some (decide (x354002 ≤ 1))) else (some false)) else (some false)))
end
def impl_InodeOk.f (k : Nat) (a0_0 : Int) (a0_1 : Int) (a0_2 : Int) (l0_3 : List Int) (l0_4 : List (S83)) (l0_5 : List (S85)) : Option (Bool) := (impl_from.f a0_0 1 1000).bind fun t354 => (if t354 = true then (if (l0_3.length : Int) > 100 then (impl_InodeOk.j0 k true a0_0 a0_1 a0_2 l0_3 l0_4 l0_5) else (if (l0_4.length : Int) > 10 then (impl_InodeOk.j0 k true a0_0 a0_1 a0_2 l0_3 l0_4 l0_5) else ((impl_attrsOk.f k l0_5).bind fun t355 => (impl_InodeOk.j0 k (!t355) a0_0 a0_1 a0_2 l0_3 l0_4 l0_5)))) else (impl_InodeOk.j0 k true a0_0 a0_1 a0_2 l0_3 l0_4 l0_5))
theorem impl_InodeOk.mono_l : ∀ k, (∀ y0 y1 y2 y3 y4 y5 y6, LeO (impl_InodeOk.j0 k y0 y1 y2 y3 y4 y5 y6) (impl_InodeOk.j0 (k + 1) y0 y1 y2 y3 y4 y5 y6)) ∧ (∀ y0 y1 y2 y3 y4 y5 y6 y7 y8, LeO (impl_InodeOk.l0 k y0 y1 y2 y3 y4 y5 y6 y7 y8) (impl_InodeOk.l0 (k + 1) y0 y1 y2 y3 y4 y5 y6 y7 y8)) ∧ (∀ y0 y1 y2 y3 y4 y5 y6, LeO (impl_InodeOk.j2 k y0 y1 y2 y3 y4 y5 y6) (impl_InodeOk.j2 (k + 1) y0 y1 y2 y3 y4 y5 y6))
 | 0 => ⟨fun _ _ _ _ _ _ _ r h => by simp [impl_InodeOk.j0] at h, fun _ _ _ _ _ _ _ _ _ r h => by simp [impl_InodeOk.l0] at h, fun _ _ _ _ _ _ _ r h => by simp [impl_InodeOk.j2] at h⟩
 | k + 1 => by
  obtain ⟨ih0, ih1, ih2⟩ := impl_InodeOk.mono_l k
  refine ⟨?_, ?_, ?_⟩
  ·intro y0 y1 y2 y3 y4 y5 y6
   unfold impl_InodeOk.j0
   repeat' first
   | (with_reducible exact ih0 _ _ _ _ _ _ _)
   | (with_reducible exact ih1 _ _ _ _ _ _ _ _ _)
   | (with_reducible exact ih2 _ _ _ _ _ _ _)
   | (with_reducible exact impl_NameOk.mono _ _)
   | (with_reducible exact impl_attrsOk.mono _ _)
   | (with_reducible exact LeO.refl _)
   | (with_reducible exact LeO.none _)
   | (with_reducible refine LeO.ite ?_ ?_)
   | (with_reducible refine LeO.bind ?_ (fun _ => ?_))
   | exact ih0 _ _ _ _ _ _ _
   | exact ih1 _ _ _ _ _ _ _ _ _
   | exact ih2 _ _ _ _ _ _ _
   | exact impl_NameOk.mono _ _
   | exact impl_attrsOk.mono _ _
   | exact LeO.none _
   | refine LeO.ite ?_ ?_
   | refine LeO.bind ?_ (fun _ => ?_)
  ·intro y0 y1 y2 y3 y4 y5 y6 y7 y8
   unfold impl_InodeOk.l0
   repeat' first
   | (with_reducible exact ih0 _ _ _ _ _ _ _)
   | (with_reducible exact ih1 _ _ _ _ _ _ _ _ _)
   | (with_reducible exact ih2 _ _ _ _ _ _ _)
   | (with_reducible exact impl_NameOk.mono _ _)
   | (with_reducible exact impl_attrsOk.mono _ _)
   | (with_reducible exact LeO.refl _)
   | (with_reducible exact LeO.none _)
   | (with_reducible refine LeO.ite ?_ ?_)
   | (with_reducible refine LeO.bind ?_ (fun _ => ?_))
   | exact ih0 _ _ _ _ _ _ _
   | exact ih1 _ _ _ _ _ _ _ _ _
   | exact ih2 _ _ _ _ _ _ _
   | exact impl_NameOk.mono _ _
   | exact impl_attrsOk.mono _ _
   | exact LeO.none _
   | refine LeO.ite ?_ ?_
   | refine LeO.bind ?_ (fun _ => ?_)
  ·intro y0 y1 y2 y3 y4 y5 y6
   unfold impl_InodeOk.j2
   repeat' first
   | (with_reducible exact ih0 _ _ _ _ _ _ _)
   | (with_reducible exact ih1 _ _ _ _ _ _ _ _ _)
   | (with_reducible exact ih2 _ _ _ _ _ _ _)
   | (with_reducible exact impl_NameOk.mono _ _)
   | (with_reducible exact impl_attrsOk.mono _ _)
   | (with_reducible exact LeO.refl _)
   | (with_reducible exact LeO.none _)
   | (with_reducible refine LeO.ite ?_ ?_)
   | (with_reducible refine LeO.bind ?_ (fun _ => ?_))
   | exact ih0 _ _ _ _ _ _ _
   | exact ih1 _ _ _ _ _ _ _ _ _
   | exact ih2 _ _ _ _ _ _ _
   | exact impl_NameOk.mono _ _
   | exact impl_attrsOk.mono _ _
   | exact LeO.none _
   | refine LeO.ite ?_ ?_
   | refine LeO.bind ?_ (fun _ => ?_)
theorem impl_InodeOk.mono : ∀ a0 a1 a2 a3 a4 a5 k, LeO (impl_InodeOk.f k a0 a1 a2 a3 a4 a5) (impl_InodeOk.f (k + 1) a0 a1 a2 a3 a4 a5) := by
 intro a0 a1 a2 a3 a4 a5 k
 obtain ⟨ih0, ih1, ih2⟩ := impl_InodeOk.mono_l k
 unfold impl_InodeOk.f
 repeat' first
   | (with_reducible exact ih0 _ _ _ _ _ _ _)
   | (with_reducible exact ih1 _ _ _ _ _ _ _ _ _)
   | (with_reducible exact ih2 _ _ _ _ _ _ _)
   | (with_reducible exact impl_NameOk.mono _ _)
   | (with_reducible exact impl_attrsOk.mono _ _)
   | (with_reducible exact LeO.refl _)
   | (with_reducible exact LeO.none _)
   | (with_reducible refine LeO.ite ?_ ?_)
   | (with_reducible refine LeO.bind ?_ (fun _ => ?_))
   | exact ih0 _ _ _ _ _ _ _
   | exact ih1 _ _ _ _ _ _ _ _ _
   | exact ih2 _ _ _ _ _ _ _
   | exact impl_NameOk.mono _ _
   | exact impl_attrsOk.mono _ _
   | exact LeO.none _
   | refine LeO.ite ?_ ?_
   | refine LeO.bind ?_ (fun _ => ?_)
set_option maxHeartbeats 8000000 in
set_option maxRecDepth 100000 in
theorem impl_InodeOk.calls (k : Nat) (a0_0 : Int) (a0_1 : Int) (a0_2 : Int) (A0_3 : Option Addr) (c0_3 : Nat) (l0_3 : List Int) (A0_4 : Option Addr) (c0_4 : Nat) (l0_4 : List (S83)) (A0_5 : Option Addr) (c0_5 : Nat) (l0_5 : List (S85)) (r : Bool) (w : World) (hr0_3 : Kd.C (Kd.int .u8) w A0_3 l0_3.length l0_3) (hc0_3 : l0_3.length ≤ c0_3) (hr0_4 : Kd.C k83 w A0_4 l0_4.length l0_4) (hc0_4 : l0_4.length ≤ c0_4) (hr0_5 : Kd.C k85 w A0_5 l0_5.length l0_5) (hc0_5 : l0_5.length ≤ c0_5) (h : impl_InodeOk.f k a0_0 a0_1 a0_2 l0_3 l0_4 l0_5 = some r) :
  Calls Try.prog 38 #[.agg #[.int .i64 a0_0, .int .i64 a0_1, .int .i64 a0_2, .slice A0_3 l0_3.length c0_3, .slice A0_4 l0_4.length c0_4, .slice A0_5 l0_5.length c0_5]] w fun e w' => e = .returned (.bool r) ∧ Below w.heap.size w w' := by
 have hu45 := Try.underlying45
 have hu83 := Try.underlying83
 have HR0_3 := Aside0.mk hr0_3
 have HC0_3 := Aside0.mk hc0_3
 clear hr0_3 hc0_3
 have HR0_4 := Aside0.mk hr0_4
 have HC0_4 := Aside0.mk hc0_4
 clear hr0_4 hc0_4
 have HR0_5 := Aside0.mk hr0_5
 have HC0_5 := Aside0.mk hc0_5
 clear hr0_5 hc0_5
 have HB := Aside0.mk (Below.refl w.heap.size w)
 have H : ((impl_from.f a0_0 1 1000).bind fun t354 => (if t354 = true then (if (l0_3.length : Int) > 100 then (impl_InodeOk.j0 k true a0_0 a0_1 a0_2 l0_3 l0_4 l0_5) else (if (l0_4.length : Int) > 10 then (impl_InodeOk.j0 k true a0_0 a0_1 a0_2 l0_3 l0_4 l0_5) else ((impl_attrsOk.f k l0_5).bind fun t355 => (impl_InodeOk.j0 k (!t355) a0_0 a0_1 a0_2 l0_3 l0_4 l0_5)))) else (impl_InodeOk.j0 k true a0_0 a0_1 a0_2 l0_3 l0_4 l0_5))) = some r := h
 clear h
 have HC2 := Aside0.mk H
 clear H
 go_enter Try.func38, Try.ntmps38
 go_upto_region 1 with (first | ((with_reducible refine gate_dst (N := 1) rfl ?_); (try (refine gate_guard (by rfl) ?_; dsimp only)); refine box_event ?hg (N := 1) ?hd (cs := #[.int .i64 a0_0, .int .i64 a0_1, .int .i64 a0_2, .slice A0_3 l0_3.length c0_3, .slice A0_4 l0_4.length c0_4, .slice A0_5 l0_5.length c0_5]) (t := 45) ?hr ?_; (case hd => rfl); (case hg => rfl); (case hr => first | (go_simp; done) | (go_simp; rfl)); intro gb353 hg w3 hbox hb; have n0_ := Aside0.mk (below_step oB hb); have n1_ := Aside0.mk (hbox); have n2_ := Aside0.mk ((by rw [hg]; exact (below_size oB) : w.heap.size ≤ gb353)); have n3_ := Aside0.mk ((by rw [hg]; exact (below_size oB) : w.heap.size ≤ gb353)); clear HB; have HB := n0_; have BK353 := n1_; have GW353 := n2_; have GE353 := n3_; clear n0_ n1_ n2_ n3_; clear hb hbox hg))
 repeat (go_quiet (first | ((with_reducible refine gate_dst (N := 1) rfl ?_); (try (refine gate_guard (by rfl) ?_; dsimp only)); refine box_event ?hg (N := 1) ?hd (cs := #[.int .i64 a0_0, .int .i64 a0_1, .int .i64 a0_2, .slice A0_3 l0_3.length c0_3, .slice A0_4 l0_4.length c0_4, .slice A0_5 l0_5.length c0_5]) (t := 45) ?hr ?_; (case hd => rfl); (case hg => rfl); (case hr => first | (go_simp; done) | (go_simp; rfl)); intro gb353 hg w3 hbox hb; have n0_ := Aside0.mk (below_step oB hb); have n1_ := Aside0.mk (hbox); have n2_ := Aside0.mk ((by rw [hg]; exact (below_size oB) : w.heap.size ≤ gb353)); have n3_ := Aside0.mk ((by rw [hg]; exact (below_size oB) : w.heap.size ≤ gb353)); clear HB; have HB := n0_; have BK353 := n1_; have GW353 := n2_; have GE353 := n3_; clear n0_ n1_ n2_ n3_; clear hb hbox hg)); go_upto_region 1 with (first | ((with_reducible refine gate_dst (N := 1) rfl ?_); (try (refine gate_guard (by rfl) ?_; dsimp only)); refine box_event ?hg (N := 1) ?hd (cs := #[.int .i64 a0_0, .int .i64 a0_1, .int .i64 a0_2, .slice A0_3 l0_3.length c0_3, .slice A0_4 l0_4.length c0_4, .slice A0_5 l0_5.length c0_5]) (t := 45) ?hr ?_; (case hd => rfl); (case hg => rfl); (case hr => first | (go_simp; done) | (go_simp; rfl)); intro gb353 hg w3 hbox hb; have n0_ := Aside0.mk (below_step oB hb); have n1_ := Aside0.mk (hbox); have n2_ := Aside0.mk ((by rw [hg]; exact (below_size oB) : w.heap.size ≤ gb353)); have n3_ := Aside0.mk ((by rw [hg]; exact (below_size oB) : w.heap.size ≤ gb353)); clear HB; have HB := n0_; have BK353 := n1_; have GW353 := n2_; have GE353 := n3_; clear n0_ n1_ n2_ n3_; clear hb hbox hg)))
 (try simp only [Act.put, List.setIfInBounds_toArray, List.set_cons_zero, List.set_cons_succ])
 go_cut [26] (fun v26 wc => ∃ (kq : Nat) (x26_1 : Bool), v26 = .bool x26_1 ∧ Aside0 (impl_InodeOk.j0 kq x26_1 a0_0 a0_1 a0_2 l0_3 l0_4 l0_5 = some r) ∧ Aside0 (kq ≤ k) ∧ Aside0 (wc.heap[gb353]? = some (.cells #[.int .i64 a0_0, .int .i64 a0_1, .int .i64 a0_2, (.slice A0_3 l0_3.length c0_3), (.slice A0_4 l0_4.length c0_4), (.slice A0_5 l0_5.length c0_5)] 45 (0, 0))) ∧ Aside0 (Below w.heap.size w wc))
 case first =>
  have H := HC2.out
  clear HC2
  replace H := Option.bind_eq_some_iff.mp H
  obtain ⟨t354, A40, H⟩ := H
  replace H : (if t354 = true then (if (l0_3.length : Int) > 100 then (impl_InodeOk.j0 k true a0_0 a0_1 a0_2 l0_3 l0_4 l0_5) else (if (l0_4.length : Int) > 10 then (impl_InodeOk.j0 k true a0_0 a0_1 a0_2 l0_3 l0_4 l0_5) else ((impl_attrsOk.f k l0_5).bind fun t355 => (impl_InodeOk.j0 k (!t355) a0_0 a0_1 a0_2 l0_3 l0_4 l0_5)))) else (impl_InodeOk.j0 k true a0_0 a0_1 a0_2 l0_3 l0_4 l0_5)) = some r := H
  have A4 := Aside0.mk A40
  clear A40
  by_cases c5 : t354 = true
  ·subst c5
   have H1 : (if (l0_3.length : Int) > 100 then (impl_InodeOk.j0 k true a0_0 a0_1 a0_2 l0_3 l0_4 l0_5) else (if (l0_4.length : Int) > 10 then (impl_InodeOk.j0 k true a0_0 a0_1 a0_2 l0_3 l0_4 l0_5) else ((impl_attrsOk.f k l0_5).bind fun t355 => (impl_InodeOk.j0 k (!t355) a0_0 a0_1 a0_2 l0_3 l0_4 l0_5)))) = some r := by rw [if_pos rfl] at H; exact H
   clear H
   have H := H1
   clear H1
   by_cases c6 : (l0_3.length : Int) > 100
   ·rw [if_pos c6] at H
    have c6b0 : decide (100 < (l0_3.length : Int)) = true := decide_eq_true c6
    have c6b1 : decide (100 < l0_3.length) = true := decide_eq_true (by omega)
    clear c6
    (first | rw [c6b0] | rw [c6b2] | (simp only [i64_w, i32_w]; rw [c6b0]) | skip)
    have H' := Aside0.mk H
    clear H
    have hcz7_0 : w3.cell? ⟨gb353, 0, none⟩ = some (.int .i64 a0_0) := (blk_cell BK353.out 0).trans rfl
    have hcz7_1 : w3.cell? ⟨gb353, 1, none⟩ = some (.int .i64 a0_1) := (blk_cell BK353.out 1).trans rfl
    have hcz7_2 : w3.cell? ⟨gb353, 2, none⟩ = some (.int .i64 a0_2) := (blk_cell BK353.out 2).trans rfl
    have hcz7_3 : w3.cell? ⟨gb353, 3, none⟩ = some (.slice A0_3 l0_3.length c0_3) := (blk_cell BK353.out 3).trans rfl
    have hcz7_4 : w3.cell? ⟨gb353, 4, none⟩ = some (.slice A0_4 l0_4.length c0_4) := (blk_cell BK353.out 4).trans rfl
    have hcz7_5 : w3.cell? ⟨gb353, 5, none⟩ = some (.slice A0_5 l0_5.length c0_5) := (blk_cell BK353.out 5).trans rfl
    have hfz7_0 := blk_frozen BK353.out 0
    have hfz7_1 := blk_frozen BK353.out 1
    have hfz7_2 := blk_frozen BK353.out 2
    have hfz7_3 := blk_frozen BK353.out 3
    have hfz7_4 := blk_frozen BK353.out 4
    have hfz7_5 := blk_frozen BK353.out 5
    go_wp2_with (first | (go_at_call 90; (with_reducible refine (impl_from.calls a0_0 1 1000 true _ A4.out).mono ?_); rintro e w' ⟨rfl, ⟨nd, rfl⟩⟩; (try first | exact ⟨rfl, _, World.drewN_drewN _ _ _⟩ | exact ⟨rfl, _, Eq.trans (World.drewN_drewN _ _ _) (congrArg (World.drewN _) (Nat.add_assoc _ _ _))⟩)))
    repeat (go_quiet (first | (go_at_call 90; (with_reducible refine (impl_from.calls a0_0 1 1000 true _ A4.out).mono ?_); rintro e w' ⟨rfl, ⟨nd, rfl⟩⟩; (try first | exact ⟨rfl, _, World.drewN_drewN _ _ _⟩ | exact ⟨rfl, _, Eq.trans (World.drewN_drewN _ _ _) (congrArg (World.drewN _) (Nat.add_assoc _ _ _))⟩))); try go_wp2_with (first | (go_at_call 90; (with_reducible refine (impl_from.calls a0_0 1 1000 true _ A4.out).mono ?_); rintro e w' ⟨rfl, ⟨nd, rfl⟩⟩; (try first | exact ⟨rfl, _, World.drewN_drewN _ _ _⟩ | exact ⟨rfl, _, Eq.trans (World.drewN_drewN _ _ _) (congrArg (World.drewN _) (Nat.add_assoc _ _ _))⟩))))
    go_meet
    case rel => exact ⟨_, (true), oS, H', ⟨by first | omega | exact Nat.le_refl _⟩, ⟨by (with_reducible repeat (first | refine blk_drewN ?_ _ | refine blk_drew ?_ | refine blk_alloc ?_ _)); exact BK353.out⟩, ⟨by repeat (first | (with_reducible first | exact HB.out | apply below_alloc | apply pw_below_drewN | apply below_drew1 | refine below_set ?_ GE353.out) | exact HB.out)⟩⟩
   ·rw [if_neg c6] at H
    have c6b0 : decide (100 < (l0_3.length : Int)) = false := decide_eq_false c6
    have c6b1 : decide (100 < l0_3.length) = false := decide_eq_false (by omega)
    clear c6
    (first | rw [c6b0] | rw [c6b2] | (simp only [i64_w, i32_w]; rw [c6b0]) | skip)
    by_cases c8 : (l0_4.length : Int) > 10
    ·rw [if_pos c8] at H
     have c8b0 : decide (10 < (l0_4.length : Int)) = true := decide_eq_true c8
     have c8b1 : decide (10 < l0_4.length) = true := decide_eq_true (by omega)
     clear c8
     have H' := Aside0.mk H
     clear H
     have hcz9_0 : w3.cell? ⟨gb353, 0, none⟩ = some (.int .i64 a0_0) := (blk_cell BK353.out 0).trans rfl
     have hcz9_1 : w3.cell? ⟨gb353, 1, none⟩ = some (.int .i64 a0_1) := (blk_cell BK353.out 1).trans rfl
     have hcz9_2 : w3.cell? ⟨gb353, 2, none⟩ = some (.int .i64 a0_2) := (blk_cell BK353.out 2).trans rfl
     have hcz9_3 : w3.cell? ⟨gb353, 3, none⟩ = some (.slice A0_3 l0_3.length c0_3) := (blk_cell BK353.out 3).trans rfl
     have hcz9_4 : w3.cell? ⟨gb353, 4, none⟩ = some (.slice A0_4 l0_4.length c0_4) := (blk_cell BK353.out 4).trans rfl
     have hcz9_5 : w3.cell? ⟨gb353, 5, none⟩ = some (.slice A0_5 l0_5.length c0_5) := (blk_cell BK353.out 5).trans rfl
     have hfz9_0 := blk_frozen BK353.out 0
     have hfz9_1 := blk_frozen BK353.out 1
     have hfz9_2 := blk_frozen BK353.out 2
     have hfz9_3 := blk_frozen BK353.out 3
     have hfz9_4 := blk_frozen BK353.out 4
     have hfz9_5 := blk_frozen BK353.out 5
     go_wp2_with (first | (go_at_call 90; (with_reducible refine (impl_from.calls a0_0 1 1000 true _ A4.out).mono ?_); rintro e w' ⟨rfl, ⟨nd, rfl⟩⟩; (try first | exact ⟨rfl, _, World.drewN_drewN _ _ _⟩ | exact ⟨rfl, _, Eq.trans (World.drewN_drewN _ _ _) (congrArg (World.drewN _) (Nat.add_assoc _ _ _))⟩)))
     repeat (go_quiet (first | (go_at_call 90; (with_reducible refine (impl_from.calls a0_0 1 1000 true _ A4.out).mono ?_); rintro e w' ⟨rfl, ⟨nd, rfl⟩⟩; (try first | exact ⟨rfl, _, World.drewN_drewN _ _ _⟩ | exact ⟨rfl, _, Eq.trans (World.drewN_drewN _ _ _) (congrArg (World.drewN _) (Nat.add_assoc _ _ _))⟩))); try go_wp2_with (first | (go_at_call 90; (with_reducible refine (impl_from.calls a0_0 1 1000 true _ A4.out).mono ?_); rintro e w' ⟨rfl, ⟨nd, rfl⟩⟩; (try first | exact ⟨rfl, _, World.drewN_drewN _ _ _⟩ | exact ⟨rfl, _, Eq.trans (World.drewN_drewN _ _ _) (congrArg (World.drewN _) (Nat.add_assoc _ _ _))⟩))))
     go_meet
     case rel => exact ⟨_, (true), oS, H', ⟨by first | omega | exact Nat.le_refl _⟩, ⟨by (with_reducible repeat (first | refine blk_drewN ?_ _ | refine blk_drew ?_ | refine blk_alloc ?_ _)); exact BK353.out⟩, ⟨by repeat (first | (with_reducible first | exact HB.out | apply below_alloc | apply pw_below_drewN | apply below_drew1 | refine below_set ?_ GE353.out) | exact HB.out)⟩⟩
    ·rw [if_neg c8] at H
     have c8b0 : decide (10 < (l0_4.length : Int)) = false := decide_eq_false c8
     have c8b1 : decide (10 < l0_4.length) = false := decide_eq_false (by omega)
     clear c8
     replace H := Option.bind_eq_some_iff.mp H
     obtain ⟨t355, A100, H⟩ := H
     replace H : (impl_InodeOk.j0 k (!t355) a0_0 a0_1 a0_2 l0_3 l0_4 l0_5) = some r := H
     have A10 := Aside0.mk A100
     clear A100
     have H' := Aside0.mk H
     clear H
     have hcz11_0 : w3.cell? ⟨gb353, 0, none⟩ = some (.int .i64 a0_0) := (blk_cell BK353.out 0).trans rfl
     have hcz11_1 : w3.cell? ⟨gb353, 1, none⟩ = some (.int .i64 a0_1) := (blk_cell BK353.out 1).trans rfl
     have hcz11_2 : w3.cell? ⟨gb353, 2, none⟩ = some (.int .i64 a0_2) := (blk_cell BK353.out 2).trans rfl
     have hcz11_3 : w3.cell? ⟨gb353, 3, none⟩ = some (.slice A0_3 l0_3.length c0_3) := (blk_cell BK353.out 3).trans rfl
     have hcz11_4 : w3.cell? ⟨gb353, 4, none⟩ = some (.slice A0_4 l0_4.length c0_4) := (blk_cell BK353.out 4).trans rfl
     have hcz11_5 : w3.cell? ⟨gb353, 5, none⟩ = some (.slice A0_5 l0_5.length c0_5) := (blk_cell BK353.out 5).trans rfl
     have hfz11_0 := blk_frozen BK353.out 0
     have hfz11_1 := blk_frozen BK353.out 1
     have hfz11_2 := blk_frozen BK353.out 2
     have hfz11_3 := blk_frozen BK353.out 3
     have hfz11_4 := blk_frozen BK353.out 4
     have hfz11_5 := blk_frozen BK353.out 5
     go_wp2_with (first | (go_at_call 90; (with_reducible refine (impl_from.calls a0_0 1 1000 true _ A4.out).mono ?_); rintro e w' ⟨rfl, ⟨nd, rfl⟩⟩; (try first | exact ⟨rfl, _, World.drewN_drewN _ _ _⟩ | exact ⟨rfl, _, Eq.trans (World.drewN_drewN _ _ _) (congrArg (World.drewN _) (Nat.add_assoc _ _ _))⟩)) | (go_at_call 91; (with_reducible refine (impl_attrsOk.calls k _ _ l0_5 t355 _ ?side1 ?side2 A10.out).mono ?_); (case side1 => repeat (first | exact (Kd.C_below HR0_5.out (by repeat (first | (with_reducible first | exact HB.out | apply below_alloc | apply pw_below_drewN | apply below_drew1 | refine below_set ?_ GE353.out) | exact HB.out))) | (with_reducible refine Kd.C_alloc ?_ _) | (with_reducible refine Kd.C_drewN ?_ _) | (with_reducible refine Kd.C_drew ?_))); (case side2 => exact HC0_5.out); rintro e w12 ⟨rfl, hb⟩; have n0_ := Aside0.mk (blk_below (g := gb353) (o := .cells #[.int .i64 a0_0, .int .i64 a0_1, .int .i64 a0_2, .slice A0_3 l0_3.length c0_3, .slice A0_4 l0_4.length c0_4, .slice A0_5 l0_5.length c0_5] 45 (0, 0)) (by (with_reducible repeat (first | refine blk_drewN ?_ _ | refine blk_drew ?_ | refine blk_alloc ?_ _)); exact BK353.out) hb); have n1_ := Aside0.mk (below_step (by repeat (first | (with_reducible first | exact HB.out | apply below_alloc | apply pw_below_drewN | apply below_drew1 | refine below_set ?_ GE353.out) | exact HB.out)) hb); clear BK353; clear HB; have BK353 := n0_; have HB := n1_; clear n0_ n1_; (try clear hb); (try clear hb2); (try clear hk); (try clear hi)))
     repeat (go_quiet (first | (go_at_call 90; (with_reducible refine (impl_from.calls a0_0 1 1000 true _ A4.out).mono ?_); rintro e w' ⟨rfl, ⟨nd, rfl⟩⟩; (try first | exact ⟨rfl, _, World.drewN_drewN _ _ _⟩ | exact ⟨rfl, _, Eq.trans (World.drewN_drewN _ _ _) (congrArg (World.drewN _) (Nat.add_assoc _ _ _))⟩)) | (go_at_call 91; (with_reducible refine (impl_attrsOk.calls k _ _ l0_5 t355 _ ?side1 ?side2 A10.out).mono ?_); (case side1 => repeat (first | exact (Kd.C_below HR0_5.out (by repeat (first | (with_reducible first | exact HB.out | apply below_alloc | apply pw_below_drewN | apply below_drew1 | refine below_set ?_ GE353.out) | exact HB.out))) | (with_reducible refine Kd.C_alloc ?_ _) | (with_reducible refine Kd.C_drewN ?_ _) | (with_reducible refine Kd.C_drew ?_))); (case side2 => exact HC0_5.out); rintro e w12 ⟨rfl, hb⟩; have n0_ := Aside0.mk (blk_below (g := gb353) (o := .cells #[.int .i64 a0_0, .int .i64 a0_1, .int .i64 a0_2, .slice A0_3 l0_3.length c0_3, .slice A0_4 l0_4.length c0_4, .slice A0_5 l0_5.length c0_5] 45 (0, 0)) (by (with_reducible repeat (first | refine blk_drewN ?_ _ | refine blk_drew ?_ | refine blk_alloc ?_ _)); exact BK353.out) hb); have n1_ := Aside0.mk (below_step (by repeat (first | (with_reducible first | exact HB.out | apply below_alloc | apply pw_below_drewN | apply below_drew1 | refine below_set ?_ GE353.out) | exact HB.out)) hb); clear BK353; clear HB; have BK353 := n0_; have HB := n1_; clear n0_ n1_; (try clear hb); (try clear hb2); (try clear hk); (try clear hi))); try go_wp2_with (first | (go_at_call 90; (with_reducible refine (impl_from.calls a0_0 1 1000 true _ A4.out).mono ?_); rintro e w' ⟨rfl, ⟨nd, rfl⟩⟩; (try first | exact ⟨rfl, _, World.drewN_drewN _ _ _⟩ | exact ⟨rfl, _, Eq.trans (World.drewN_drewN _ _ _) (congrArg (World.drewN _) (Nat.add_assoc _ _ _))⟩)) | (go_at_call 91; (with_reducible refine (impl_attrsOk.calls k _ _ l0_5 t355 _ ?side1 ?side2 A10.out).mono ?_); (case side1 => repeat (first | exact (Kd.C_below HR0_5.out (by repeat (first | (with_reducible first | exact HB.out | apply below_alloc | apply pw_below_drewN | apply below_drew1 | refine below_set ?_ GE353.out) | exact HB.out))) | (with_reducible refine Kd.C_alloc ?_ _) | (with_reducible refine Kd.C_drewN ?_ _) | (with_reducible refine Kd.C_drew ?_))); (case side2 => exact HC0_5.out); rintro e w12 ⟨rfl, hb⟩; have n0_ := Aside0.mk (blk_below (g := gb353) (o := .cells #[.int .i64 a0_0, .int .i64 a0_1, .int .i64 a0_2, .slice A0_3 l0_3.length c0_3, .slice A0_4 l0_4.length c0_4, .slice A0_5 l0_5.length c0_5] 45 (0, 0)) (by (with_reducible repeat (first | refine blk_drewN ?_ _ | refine blk_drew ?_ | refine blk_alloc ?_ _)); exact BK353.out) hb); have n1_ := Aside0.mk (below_step (by repeat (first | (with_reducible first | exact HB.out | apply below_alloc | apply pw_below_drewN | apply below_drew1 | refine below_set ?_ GE353.out) | exact HB.out)) hb); clear BK353; clear HB; have BK353 := n0_; have HB := n1_; clear n0_ n1_; (try clear hb); (try clear hb2); (try clear hk); (try clear hi))))
     go_meet
     case rel => exact ⟨_, (!t355), oS, H', ⟨by first | omega | exact Nat.le_refl _⟩, ⟨by (with_reducible repeat (first | refine blk_drewN ?_ _ | refine blk_drew ?_ | refine blk_alloc ?_ _)); exact BK353.out⟩, ⟨by repeat (first | (with_reducible first | exact HB.out | apply below_alloc | apply pw_below_drewN | apply below_drew1 | refine below_set ?_ GE353.out) | exact HB.out)⟩⟩
  ·replace c5 := Bool.eq_false_iff.mpr c5
   subst c5
   have H1 : (impl_InodeOk.j0 k true a0_0 a0_1 a0_2 l0_3 l0_4 l0_5) = some r := by rw [if_neg (show ¬ (false = true) by decide)] at H; exact H
   clear H
   have H := H1
   clear H1
   have H' := Aside0.mk H
   clear H
   have hcz13_0 : w3.cell? ⟨gb353, 0, none⟩ = some (.int .i64 a0_0) := (blk_cell BK353.out 0).trans rfl
   have hcz13_1 : w3.cell? ⟨gb353, 1, none⟩ = some (.int .i64 a0_1) := (blk_cell BK353.out 1).trans rfl
   have hcz13_2 : w3.cell? ⟨gb353, 2, none⟩ = some (.int .i64 a0_2) := (blk_cell BK353.out 2).trans rfl
   have hcz13_3 : w3.cell? ⟨gb353, 3, none⟩ = some (.slice A0_3 l0_3.length c0_3) := (blk_cell BK353.out 3).trans rfl
   have hcz13_4 : w3.cell? ⟨gb353, 4, none⟩ = some (.slice A0_4 l0_4.length c0_4) := (blk_cell BK353.out 4).trans rfl
   have hcz13_5 : w3.cell? ⟨gb353, 5, none⟩ = some (.slice A0_5 l0_5.length c0_5) := (blk_cell BK353.out 5).trans rfl
   have hfz13_0 := blk_frozen BK353.out 0
   have hfz13_1 := blk_frozen BK353.out 1
   have hfz13_2 := blk_frozen BK353.out 2
   have hfz13_3 := blk_frozen BK353.out 3
   have hfz13_4 := blk_frozen BK353.out 4
   have hfz13_5 := blk_frozen BK353.out 5
   go_wp2_with (first | (go_at_call 90; (with_reducible refine (impl_from.calls a0_0 1 1000 false _ A4.out).mono ?_); rintro e w' ⟨rfl, ⟨nd, rfl⟩⟩; (try first | exact ⟨rfl, _, World.drewN_drewN _ _ _⟩ | exact ⟨rfl, _, Eq.trans (World.drewN_drewN _ _ _) (congrArg (World.drewN _) (Nat.add_assoc _ _ _))⟩)))
   repeat (go_quiet (first | (go_at_call 90; (with_reducible refine (impl_from.calls a0_0 1 1000 false _ A4.out).mono ?_); rintro e w' ⟨rfl, ⟨nd, rfl⟩⟩; (try first | exact ⟨rfl, _, World.drewN_drewN _ _ _⟩ | exact ⟨rfl, _, Eq.trans (World.drewN_drewN _ _ _) (congrArg (World.drewN _) (Nat.add_assoc _ _ _))⟩))); try go_wp2_with (first | (go_at_call 90; (with_reducible refine (impl_from.calls a0_0 1 1000 false _ A4.out).mono ?_); rintro e w' ⟨rfl, ⟨nd, rfl⟩⟩; (try first | exact ⟨rfl, _, World.drewN_drewN _ _ _⟩ | exact ⟨rfl, _, Eq.trans (World.drewN_drewN _ _ _) (congrArg (World.drewN _) (Nat.add_assoc _ _ _))⟩))))
   go_meet
   case rel => exact ⟨_, (true), oS, H', ⟨by first | omega | exact Nat.le_refl _⟩, ⟨by (with_reducible repeat (first | refine blk_drewN ?_ _ | refine blk_drew ?_ | refine blk_alloc ?_ _)); exact BK353.out⟩, ⟨by repeat (first | (with_reducible first | exact HB.out | apply below_alloc | apply pw_below_drewN | apply below_drew1 | refine below_set ?_ GE353.out) | exact HB.out)⟩⟩
 case rest =>
  clear HC2
  try clear p2
  try clear c3
  try clear c5
  try clear c6
  try clear c6b0
  try clear c6b1
  try clear c6b2
  try clear c8
  try clear c8b0
  try clear c8b1
  try clear hcz11_0
  try clear hcz11_1
  try clear hcz11_2
  try clear hcz11_3
  try clear hcz11_4
  try clear hcz11_5
  try clear hcz13_0
  try clear hcz13_1
  try clear hcz13_2
  try clear hcz13_3
  try clear hcz13_4
  try clear hcz13_5
  try clear hcz7_0
  try clear hcz7_1
  try clear hcz7_2
  try clear hcz7_3
  try clear hcz7_4
  try clear hcz7_5
  try clear hcz9_0
  try clear hcz9_1
  try clear hcz9_2
  try clear hcz9_3
  try clear hcz9_4
  try clear hcz9_5
  try clear hfz11_0
  try clear hfz11_1
  try clear hfz11_2
  try clear hfz11_3
  try clear hfz11_4
  try clear hfz11_5
  try clear hfz13_0
  try clear hfz13_1
  try clear hfz13_2
  try clear hfz13_3
  try clear hfz13_4
  try clear hfz13_5
  try clear hfz7_0
  try clear hfz7_1
  try clear hfz7_2
  try clear hfz7_3
  try clear hfz7_4
  try clear hfz7_5
  try clear hfz9_0
  try clear hfz9_1
  try clear hfz9_2
  try clear hfz9_3
  try clear hfz9_4
  try clear hfz9_5
  obtain ⟨kq, x26_1, rfl, HA, HJ1, BK353, HB⟩ := hcut
  cases kq with
  | zero => exact absurd HA.out (by simp [impl_InodeOk.j0])
  | succ kj1 =>
   have H := HA.out
   clear HA
   simp only [impl_InodeOk.j0] at H
   by_cases c14 : x26_1 = true
   ·subst c14
    have H1 : (some false) = some r := by rw [if_pos rfl] at H; exact H
    clear H
    have H := H1
    clear H1
    obtain rfl := Option.some.inj H
    go_wp2
    repeat (go_quiet (fail); try go_wp2)
    go_ret
    exact ⟨oE, by repeat (first | (with_reducible first | exact HB.out | apply below_alloc | apply pw_below_drewN | apply below_drew1 | refine below_set ?_ GE353.out) | exact HB.out)⟩
   ·replace c14 := Bool.eq_false_iff.mpr c14
    subst c14
    have H1 : (impl_InodeOk.l0 kj1 l0_4 (l0_4.length : Int) 0 a0_0 a0_1 a0_2 l0_3 l0_4 l0_5) = some r := by rw [if_neg (show ¬ (false = true) by decide)] at H; exact H
    clear H
    have H := H1
    clear H1
    have H' := Aside0.mk H
    clear H
    have hcz15_0 : wc.cell? ⟨gb353, 0, none⟩ = some (.int .i64 a0_0) := (blk_cell BK353.out 0).trans rfl
    have hcz15_1 : wc.cell? ⟨gb353, 1, none⟩ = some (.int .i64 a0_1) := (blk_cell BK353.out 1).trans rfl
    have hcz15_2 : wc.cell? ⟨gb353, 2, none⟩ = some (.int .i64 a0_2) := (blk_cell BK353.out 2).trans rfl
    have hcz15_3 : wc.cell? ⟨gb353, 3, none⟩ = some (.slice A0_3 l0_3.length c0_3) := (blk_cell BK353.out 3).trans rfl
    have hcz15_4 : wc.cell? ⟨gb353, 4, none⟩ = some (.slice A0_4 l0_4.length c0_4) := (blk_cell BK353.out 4).trans rfl
    have hcz15_5 : wc.cell? ⟨gb353, 5, none⟩ = some (.slice A0_5 l0_5.length c0_5) := (blk_cell BK353.out 5).trans rfl
    have hfz15_0 := blk_frozen BK353.out 0
    have hfz15_1 := blk_frozen BK353.out 1
    have hfz15_2 := blk_frozen BK353.out 2
    have hfz15_3 := blk_frozen BK353.out 3
    have hfz15_4 := blk_frozen BK353.out 4
    have hfz15_5 := blk_frozen BK353.out 5
    go_wp2
    repeat (go_quiet (fail); try go_wp2)
    go_loopg [30] kj1 (fun kq v30 w' => ∃ (x30_2 : Int), v30 = .int .i64 x30_2 ∧ Aside0 (impl_InodeOk.l0 kq l0_4 (l0_4.length : Int) x30_2 a0_0 a0_1 a0_2 l0_3 l0_4 l0_5 = some r) ∧ Aside0 (kq ≤ kj1) ∧ Aside0 (w'.heap[gb353]? = some (.cells #[.int .i64 a0_0, .int .i64 a0_1, .int .i64 a0_2, (.slice A0_3 l0_3.length c0_3), (.slice A0_4 l0_4.length c0_4), (.slice A0_5 l0_5.length c0_5)] 45 (0, 0))) ∧ Aside0 (Below w.heap.size w w'))
    case atStart => exact ⟨(0), oS, H', ⟨Nat.le_refl _⟩, ⟨by (with_reducible repeat (first | refine blk_drewN ?_ _ | refine blk_drew ?_ | refine blk_alloc ?_ _)); exact BK353.out⟩, ⟨by repeat (first | (with_reducible first | exact HB.out | apply below_alloc | apply pw_below_drewN | apply below_drew1 | refine below_set ?_ GE353.out) | exact HB.out)⟩⟩
    case round =>
     clear H'
     try clear c1
     try clear p2
     try clear c3
     try clear c5
     try clear c6
     try clear c6b0
     try clear c6b1
     try clear c6b2
     try clear c8
     try clear c8b0
     try clear c8b1
     try clear c14
     try clear hcz11_0
     try clear hcz11_1
     try clear hcz11_2
     try clear hcz11_3
     try clear hcz11_4
     try clear hcz11_5
     try clear hcz13_0
     try clear hcz13_1
     try clear hcz13_2
     try clear hcz13_3
     try clear hcz13_4
     try clear hcz13_5
     try clear hcz15_0
     try clear hcz15_1
     try clear hcz15_2
     try clear hcz15_3
     try clear hcz15_4
     try clear hcz15_5
     try clear hcz7_0
     try clear hcz7_1
     try clear hcz7_2
     try clear hcz7_3
     try clear hcz7_4
     try clear hcz7_5
     try clear hcz9_0
     try clear hcz9_1
     try clear hcz9_2
     try clear hcz9_3
     try clear hcz9_4
     try clear hcz9_5
     try clear hfz11_0
     try clear hfz11_1
     try clear hfz11_2
     try clear hfz11_3
     try clear hfz11_4
     try clear hfz11_5
     try clear hfz13_0
     try clear hfz13_1
     try clear hfz13_2
     try clear hfz13_3
     try clear hfz13_4
     try clear hfz13_5
     try clear hfz15_0
     try clear hfz15_1
     try clear hfz15_2
     try clear hfz15_3
     try clear hfz15_4
     try clear hfz15_5
     try clear hfz7_0
     try clear hfz7_1
     try clear hfz7_2
     try clear hfz7_3
     try clear hfz7_4
     try clear hfz7_5
     try clear hfz9_0
     try clear hfz9_1
     try clear hfz9_2
     try clear hfz9_3
     try clear hfz9_4
     try clear hfz9_5
     try clear p2
     obtain ⟨x30_2, rfl, HA, HK2, BK353, HB⟩ := hrel
     cases gk with
     | zero => exact absurd HA.out (by simp [impl_InodeOk.l0])
     | succ k2 =>
      have H := HA.out
      clear HA
      simp only [impl_InodeOk.l0] at H
      by_cases c16 : x30_2 < (l0_4.length : Int)
      ·rw [if_pos c16] at H
       have c16b0 : decide (x30_2 < (l0_4.length : Int)) = true := decide_eq_true c16
       clear c16
       by_cases c17 : 0 ≤ x30_2
       ·rw [if_pos c17] at H
        have c17b0 : decide (0 ≤ x30_2) = true := decide_eq_true c17
        clear c17
        by_cases c18 : x30_2 < (l0_4.length : Int)
        ·rw [if_pos c18] at H
         have c18b0 : decide (x30_2 < (l0_4.length : Int)) = true := decide_eq_true c18
         clear c18
         replace H := Option.bind_eq_some_iff.mp H
         obtain ⟨t358, A190, H⟩ := H
         replace H : (if t358 = true then ((impl_from.f ((rd_T83 l0_4 x30_2).f1) 2 1000).bind fun t359 => (if t359 = true then (if x30_2 > 0 then (if 0 ≤ (wrap64 (x30_2 - 1)) then (if (wrap64 (x30_2 - 1)) < (l0_4.length : Int) then (if ((Op.bytesLess (((rd_T83 l0_4 (wrap64 (x30_2 - 1))).f0).toList) (((rd_T83 l0_4 x30_2).f0).toList)) = true) then (impl_InodeOk.l0 k2 l0_4 (l0_4.length : Int) (wrap64 (x30_2 + 1)) a0_0 a0_1 a0_2 l0_3 l0_4 l0_5) else (some false)) else (none)) else (none)) else (impl_InodeOk.l0 k2 l0_4 (l0_4.length : Int) (wrap64 (x30_2 + 1)) a0_0 a0_1 a0_2 l0_3 l0_4 l0_5)) else (some false))) else (some false)) = some r := H
         have A19 := Aside0.mk A190
         clear A190
         by_cases c20 : t358 = true
         ·subst c20
          have H1 : ((impl_from.f ((rd_T83 l0_4 x30_2).f1) 2 1000).bind fun t359 => (if t359 = true then (if x30_2 > 0 then (if 0 ≤ (wrap64 (x30_2 - 1)) then (if (wrap64 (x30_2 - 1)) < (l0_4.length : Int) then (if ((Op.bytesLess (((rd_T83 l0_4 (wrap64 (x30_2 - 1))).f0).toList) (((rd_T83 l0_4 x30_2).f0).toList)) = true) then (impl_InodeOk.l0 k2 l0_4 (l0_4.length : Int) (wrap64 (x30_2 + 1)) a0_0 a0_1 a0_2 l0_3 l0_4 l0_5) else (some false)) else (none)) else (none)) else (impl_InodeOk.l0 k2 l0_4 (l0_4.length : Int) (wrap64 (x30_2 + 1)) a0_0 a0_1 a0_2 l0_3 l0_4 l0_5)) else (some false))) = some r := by rw [if_pos rfl] at H; exact H
          clear H
          have H := H1
          clear H1
          replace H := Option.bind_eq_some_iff.mp H
          obtain ⟨t359, A210, H⟩ := H
          replace H : (if t359 = true then (if x30_2 > 0 then (if 0 ≤ (wrap64 (x30_2 - 1)) then (if (wrap64 (x30_2 - 1)) < (l0_4.length : Int) then (if ((Op.bytesLess (((rd_T83 l0_4 (wrap64 (x30_2 - 1))).f0).toList) (((rd_T83 l0_4 x30_2).f0).toList)) = true) then (impl_InodeOk.l0 k2 l0_4 (l0_4.length : Int) (wrap64 (x30_2 + 1)) a0_0 a0_1 a0_2 l0_3 l0_4 l0_5) else (some false)) else (none)) else (none)) else (impl_InodeOk.l0 k2 l0_4 (l0_4.length : Int) (wrap64 (x30_2 + 1)) a0_0 a0_1 a0_2 l0_3 l0_4 l0_5)) else (some false)) = some r := H
          have A21 := Aside0.mk A210
          clear A210
          by_cases c22 : t359 = true
          ·subst c22
           have H1 : (if x30_2 > 0 then (if 0 ≤ (wrap64 (x30_2 - 1)) then (if (wrap64 (x30_2 - 1)) < (l0_4.length : Int) then (if ((Op.bytesLess (((rd_T83 l0_4 (wrap64 (x30_2 - 1))).f0).toList) (((rd_T83 l0_4 x30_2).f0).toList)) = true) then (impl_InodeOk.l0 k2 l0_4 (l0_4.length : Int) (wrap64 (x30_2 + 1)) a0_0 a0_1 a0_2 l0_3 l0_4 l0_5) else (some false)) else (none)) else (none)) else (impl_InodeOk.l0 k2 l0_4 (l0_4.length : Int) (wrap64 (x30_2 + 1)) a0_0 a0_1 a0_2 l0_3 l0_4 l0_5)) = some r := by rw [if_pos rfl] at H; exact H
           clear H
           have H := H1
           clear H1
           by_cases c23 : x30_2 > 0
           ·rw [if_pos c23] at H
            have c23b0 : decide (0 < x30_2) = true := decide_eq_true c23
            clear c23
            obtain ⟨ji24, hji24⟩ : ∃ j_ : Int, (wrap64 (x30_2 - 1)) = j_ := ⟨_, rfl⟩
            replace H : (if 0 ≤ (ji24) then (if (ji24) < (l0_4.length : Int) then (if ((Op.bytesLess (((rd_T83 l0_4 (ji24)).f0).toList) (((rd_T83 l0_4 x30_2).f0).toList)) = true) then (impl_InodeOk.l0 k2 l0_4 (l0_4.length : Int) (wrap64 (x30_2 + 1)) a0_0 a0_1 a0_2 l0_3 l0_4 l0_5) else (some false)) else (none)) else (none)) = some r := by first | (rw [hji24] at H; exact H) | (simp only [hji24] at H ⊢; exact H)
            (try rw [hji24] at A19)
            (try rw [hji24] at A21)
            have hji24w : (IntKind.i64.wrap (x30_2 - 1)) = ji24 := (i64_w _).trans hji24
            by_cases c25 : 0 ≤ (ji24)
            ·rw [if_pos c25] at H
             have c25b0 : decide (0 ≤ (ji24)) = true := decide_eq_true c25
             clear c25
             by_cases c26 : (ji24) < (l0_4.length : Int)
             ·rw [if_pos c26] at H
              have c26b0 : decide ((ji24) < (l0_4.length : Int)) = true := decide_eq_true c26
              clear c26
              by_cases c27 : ((Op.bytesLess (((rd_T83 l0_4 (ji24)).f0).toList) (((rd_T83 l0_4 x30_2).f0).toList)) = true)
              ·rw [if_pos c27] at H
               have c27b0 : (Op.bytesLess (((rd_T83 l0_4 (ji24)).f0).toList) (((rd_T83 l0_4 x30_2).f0).toList)) = true := c27
               clear c27
               have H' := Aside0.mk H
               clear H
               have p356 : 0 ≤ (x30_2 : Int) := oa
               have q356 : x30_2 < (l0_4.length : Int) := oa
               obtain ⟨ad356, e356, hx356_0, hx356_1⟩ := at_T83 HR0_4.out x30_2 p356 q356
               cases e356
               replace hx356_0 := (HB.out.cell (World.block_lt_of_cell? w _ hx356_0)).trans hx356_0
               replace hx356_1 := (HB.out.cell (World.block_lt_of_cell? w _ hx356_1)).trans hx356_1
               replace p356 := eq_true p356
               replace q356 := eq_true q356
               go_wp2_with (first | ((with_reducible refine gate_dst (N := 4) rfl ?_); (try (refine gate_guard (by rfl) ?_; dsimp only)); refine box_event ?hg (N := 4) ?hd (cs := #[.string (⟨#[]⟩ : ByteArray), .int .i64 0]) (t := 83) ?hr ?_; (case hd => rfl); (case hg => rfl); (case hr => first | (go_simp; done) | (go_simp; rfl)); intro gb357 hg w28 hbox hb; have n0_ := Aside0.mk (blk_below (g := gb353) (o := .cells #[.int .i64 a0_0, .int .i64 a0_1, .int .i64 a0_2, .slice A0_3 l0_3.length c0_3, .slice (some ad356) l0_4.length c0_4, .slice A0_5 l0_5.length c0_5] 45 (0, 0)) (by (with_reducible repeat (first | refine blk_drewN ?_ _ | refine blk_drew ?_ | refine blk_alloc ?_ _)); exact BK353.out) hb); have n1_ := Aside0.mk (below_step (by repeat (first | (with_reducible first | exact HB.out | apply below_alloc | apply pw_below_drewN | apply below_drew1 | refine below_set ?_ GE353.out) | exact HB.out)) hb); have n2_ := Aside0.mk (hbox); have n3_ := Aside0.mk ((by rw [hg]; exact (below_size (by repeat (first | (with_reducible first | exact HB.out | apply below_alloc | apply pw_below_drewN | apply below_drew1 | refine below_set ?_ GE353.out) | exact HB.out))) : w.heap.size ≤ gb357)); have n4_ := Aside0.mk ((by rw [hg]; exact (below_size (by repeat (first | (with_reducible first | exact HB.out | apply below_alloc | apply pw_below_drewN | apply below_drew1 | refine below_set ?_ GE353.out) | exact HB.out))) : w.heap.size ≤ gb357)); have n5_ := Aside0.mk ((by rw [hg]; exact Nat.ne_of_lt (blk_lt (g := gb353) (o := .cells #[.int .i64 a0_0, .int .i64 a0_1, .int .i64 a0_2, .slice A0_3 l0_3.length c0_3, .slice (some ad356) l0_4.length c0_4, .slice A0_5 l0_5.length c0_5] 45 (0, 0)) (by (with_reducible repeat (first | refine blk_drewN ?_ _ | refine blk_drew ?_ | refine blk_alloc ?_ _)); exact BK353.out)) : gb353 ≠ gb357)); have n6_ := Aside0.mk ((by rw [hg]; exact Nat.ne_of_gt (blk_lt (g := gb353) (o := .cells #[.int .i64 a0_0, .int .i64 a0_1, .int .i64 a0_2, .slice A0_3 l0_3.length c0_3, .slice (some ad356) l0_4.length c0_4, .slice A0_5 l0_5.length c0_5] 45 (0, 0)) (by (with_reducible repeat (first | refine blk_drewN ?_ _ | refine blk_drew ?_ | refine blk_alloc ?_ _)); exact BK353.out)) : gb357 ≠ gb353)); clear BK353; clear HB; have BK353 := n0_; have HB := n1_; have BK357 := n2_; have GW357 := n3_; have GE357 := n4_; have NB353_357 := n5_; have NB357_353 := n6_; clear n0_ n1_ n2_ n3_ n4_ n5_ n6_; clear hb hbox hg; have hnb29 := NB357_353.out; have hnc29 := NB353_357.out; have hcz30_0 : w28.cell? ⟨gb357, 0, none⟩ = some (.string (⟨#[]⟩ : ByteArray)) := (blk_cell BK357.out 0).trans rfl; have hcz30_1 : w28.cell? ⟨gb357, 1, none⟩ = some (.int .i64 0) := (blk_cell BK357.out 1).trans rfl; have hfz30_0 := blk_frozen BK357.out 0; have hfz30_1 := blk_frozen BK357.out 1) | (go_at_call 92; (with_reducible refine (impl_NameOk.calls k2 ((rd_T83 l0_4 x30_2).f0) true _ A19.out).mono ?_); rintro e w' ⟨rfl, ⟨nd, rfl⟩⟩; (try first | exact ⟨rfl, _, World.drewN_drewN _ _ _⟩ | exact ⟨rfl, _, Eq.trans (World.drewN_drewN _ _ _) (congrArg (World.drewN _) (Nat.add_assoc _ _ _))⟩)) | (go_at_call 90; (with_reducible refine (impl_from.calls ((rd_T83 l0_4 x30_2).f1) 2 1000 true _ A21.out).mono ?_); rintro e w' ⟨rfl, ⟨nd, rfl⟩⟩; (try first | exact ⟨rfl, _, World.drewN_drewN _ _ _⟩ | exact ⟨rfl, _, Eq.trans (World.drewN_drewN _ _ _) (congrArg (World.drewN _) (Nat.add_assoc _ _ _))⟩); have hcz31_0 : w28.cell? ⟨gb353, 0, none⟩ = some (.int .i64 a0_0) := (blk_cell BK353.out 0).trans rfl; have hcz31_1 : w28.cell? ⟨gb353, 1, none⟩ = some (.int .i64 a0_1) := (blk_cell BK353.out 1).trans rfl; have hcz31_2 : w28.cell? ⟨gb353, 2, none⟩ = some (.int .i64 a0_2) := (blk_cell BK353.out 2).trans rfl; have hcz31_3 : w28.cell? ⟨gb353, 3, none⟩ = some (.slice A0_3 l0_3.length c0_3) := (blk_cell BK353.out 3).trans rfl; have hcz31_4 : w28.cell? ⟨gb353, 4, none⟩ = some (.slice (some ad356) l0_4.length c0_4) := (blk_cell BK353.out 4).trans rfl; have hcz31_5 : w28.cell? ⟨gb353, 5, none⟩ = some (.slice A0_5 l0_5.length c0_5) := (blk_cell BK353.out 5).trans rfl; have hfz31_0 := blk_frozen BK353.out 0; have hfz31_1 := blk_frozen BK353.out 1; have hfz31_2 := blk_frozen BK353.out 2; have hfz31_3 := blk_frozen BK353.out 3; have hfz31_4 := blk_frozen BK353.out 4; have hfz31_5 := blk_frozen BK353.out 5; have p360 : 0 ≤ ((ji24) : Int) := oa; have q360 : (ji24) < (l0_4.length : Int) := oa; obtain ⟨ad360, e360, hx360_0, hx360_1⟩ := at_T83 HR0_4.out (ji24) p360 q360; obtain rfl : ad356 = ad360 := (by injection e360); have hn360_0 : ad356.block ≠ gb357 := Nat.ne_of_lt (Nat.lt_of_lt_of_le (by have := World.block_lt_of_cell? _ _ hx360_0; first | rwa [add_block] at this | exact this) GW357.out); have hn360_1 : ad356.block ≠ gb357 := Nat.ne_of_lt (Nat.lt_of_lt_of_le (by have := World.block_lt_of_cell? _ _ hx360_0; first | rwa [add_block] at this | exact this) GW357.out); replace hx360_0 := (HB.out.cell (World.block_lt_of_cell? w _ hx360_0)).trans hx360_0; replace hx360_1 := (HB.out.cell (World.block_lt_of_cell? w _ hx360_1)).trans hx360_1; replace hx360_0 := (cell_far (p := ⟨gb357, 0, none⟩) (by first | (rw [add_block]; exact hn360_0) | (show (Addr.add _ _).block ≠ _; rw [add_block]; exact hn360_0) | exact hn360_0) (.string ((rd_T83 l0_4 x30_2).f0))).trans hx360_0; replace hx360_1 := (cell_far (p := ⟨gb357, 0, none⟩) (by first | (rw [add_block]; exact hn360_0) | (show (Addr.add _ _).block ≠ _; rw [add_block]; exact hn360_0) | exact hn360_0) (.string ((rd_T83 l0_4 x30_2).f0))).trans hx360_1; replace hx360_0 := (cell_far (p := ⟨gb357, 1, none⟩) (by first | (rw [add_block]; exact hn360_1) | (show (Addr.add _ _).block ≠ _; rw [add_block]; exact hn360_1) | exact hn360_1) (.int .i64 ((rd_T83 l0_4 x30_2).f1))).trans hx360_0; replace hx360_1 := (cell_far (p := ⟨gb357, 1, none⟩) (by first | (rw [add_block]; exact hn360_1) | (show (Addr.add _ _).block ≠ _; rw [add_block]; exact hn360_1) | exact hn360_1) (.int .i64 ((rd_T83 l0_4 x30_2).f1))).trans hx360_1; (try have hy360_0 := fun (n_ : Nat) => (show ((((w28.drewN n_).setCell ⟨gb357, 0, none⟩ (.string ((rd_T83 l0_4 x30_2).f0))).setCell ⟨gb357, 1, none⟩ (.int .i64 ((rd_T83 l0_4 x30_2).f1)))).cell? _ = some _ from hx360_0)); (try have hy360_1 := fun (n_ : Nat) => (show ((((w28.drewN n_).setCell ⟨gb357, 0, none⟩ (.string ((rd_T83 l0_4 x30_2).f0))).setCell ⟨gb357, 1, none⟩ (.int .i64 ((rd_T83 l0_4 x30_2).f1)))).cell? _ = some _ from hx360_1)); clear hn360_0; clear hn360_1; replace p360 := eq_true p360; replace q360 := eq_true q360))
               repeat (go_quiet (first | ((with_reducible refine gate_dst (N := 4) rfl ?_); (try (refine gate_guard (by rfl) ?_; dsimp only)); refine box_event ?hg (N := 4) ?hd (cs := #[.string (⟨#[]⟩ : ByteArray), .int .i64 0]) (t := 83) ?hr ?_; (case hd => rfl); (case hg => rfl); (case hr => first | (go_simp; done) | (go_simp; rfl)); intro gb357 hg w28 hbox hb; have n0_ := Aside0.mk (blk_below (g := gb353) (o := .cells #[.int .i64 a0_0, .int .i64 a0_1, .int .i64 a0_2, .slice A0_3 l0_3.length c0_3, .slice (some ad356) l0_4.length c0_4, .slice A0_5 l0_5.length c0_5] 45 (0, 0)) (by (with_reducible repeat (first | refine blk_drewN ?_ _ | refine blk_drew ?_ | refine blk_alloc ?_ _)); exact BK353.out) hb); have n1_ := Aside0.mk (below_step (by repeat (first | (with_reducible first | exact HB.out | apply below_alloc | apply pw_below_drewN | apply below_drew1 | refine below_set ?_ GE353.out) | exact HB.out)) hb); have n2_ := Aside0.mk (hbox); have n3_ := Aside0.mk ((by rw [hg]; exact (below_size (by repeat (first | (with_reducible first | exact HB.out | apply below_alloc | apply pw_below_drewN | apply below_drew1 | refine below_set ?_ GE353.out) | exact HB.out))) : w.heap.size ≤ gb357)); have n4_ := Aside0.mk ((by rw [hg]; exact (below_size (by repeat (first | (with_reducible first | exact HB.out | apply below_alloc | apply pw_below_drewN | apply below_drew1 | refine below_set ?_ GE353.out) | exact HB.out))) : w.heap.size ≤ gb357)); have n5_ := Aside0.mk ((by rw [hg]; exact Nat.ne_of_lt (blk_lt (g := gb353) (o := .cells #[.int .i64 a0_0, .int .i64 a0_1, .int .i64 a0_2, .slice A0_3 l0_3.length c0_3, .slice (some ad356) l0_4.length c0_4, .slice A0_5 l0_5.length c0_5] 45 (0, 0)) (by (with_reducible repeat (first | refine blk_drewN ?_ _ | refine blk_drew ?_ | refine blk_alloc ?_ _)); exact BK353.out)) : gb353 ≠ gb357)); have n6_ := Aside0.mk ((by rw [hg]; exact Nat.ne_of_gt (blk_lt (g := gb353) (o := .cells #[.int .i64 a0_0, .int .i64 a0_1, .int .i64 a0_2, .slice A0_3 l0_3.length c0_3, .slice (some ad356) l0_4.length c0_4, .slice A0_5 l0_5.length c0_5] 45 (0, 0)) (by (with_reducible repeat (first | refine blk_drewN ?_ _ | refine blk_drew ?_ | refine blk_alloc ?_ _)); exact BK353.out)) : gb357 ≠ gb353)); clear BK353; clear HB; have BK353 := n0_; have HB := n1_; have BK357 := n2_; have GW357 := n3_; have GE357 := n4_; have NB353_357 := n5_; have NB357_353 := n6_; clear n0_ n1_ n2_ n3_ n4_ n5_ n6_; clear hb hbox hg; have hnb29 := NB357_353.out; have hnc29 := NB353_357.out; have hcz30_0 : w28.cell? ⟨gb357, 0, none⟩ = some (.string (⟨#[]⟩ : ByteArray)) := (blk_cell BK357.out 0).trans rfl; have hcz30_1 : w28.cell? ⟨gb357, 1, none⟩ = some (.int .i64 0) := (blk_cell BK357.out 1).trans rfl; have hfz30_0 := blk_frozen BK357.out 0; have hfz30_1 := blk_frozen BK357.out 1) | (go_at_call 92; (with_reducible refine (impl_NameOk.calls k2 ((rd_T83 l0_4 x30_2).f0) true _ A19.out).mono ?_); rintro e w' ⟨rfl, ⟨nd, rfl⟩⟩; (try first | exact ⟨rfl, _, World.drewN_drewN _ _ _⟩ | exact ⟨rfl, _, Eq.trans (World.drewN_drewN _ _ _) (congrArg (World.drewN _) (Nat.add_assoc _ _ _))⟩)) | (go_at_call 90; (with_reducible refine (impl_from.calls ((rd_T83 l0_4 x30_2).f1) 2 1000 true _ A21.out).mono ?_); rintro e w' ⟨rfl, ⟨nd, rfl⟩⟩; (try first | exact ⟨rfl, _, World.drewN_drewN _ _ _⟩ | exact ⟨rfl, _, Eq.trans (World.drewN_drewN _ _ _) (congrArg (World.drewN _) (Nat.add_assoc _ _ _))⟩); have hcz31_0 : w28.cell? ⟨gb353, 0, none⟩ = some (.int .i64 a0_0) := (blk_cell BK353.out 0).trans rfl; have hcz31_1 : w28.cell? ⟨gb353, 1, none⟩ = some (.int .i64 a0_1) := (blk_cell BK353.out 1).trans rfl; have hcz31_2 : w28.cell? ⟨gb353, 2, none⟩ = some (.int .i64 a0_2) := (blk_cell BK353.out 2).trans rfl; have hcz31_3 : w28.cell? ⟨gb353, 3, none⟩ = some (.slice A0_3 l0_3.length c0_3) := (blk_cell BK353.out 3).trans rfl; have hcz31_4 : w28.cell? ⟨gb353, 4, none⟩ = some (.slice (some ad356) l0_4.length c0_4) := (blk_cell BK353.out 4).trans rfl; have hcz31_5 : w28.cell? ⟨gb353, 5, none⟩ = some (.slice A0_5 l0_5.length c0_5) := (blk_cell BK353.out 5).trans rfl; have hfz31_0 := blk_frozen BK353.out 0; have hfz31_1 := blk_frozen BK353.out 1; have hfz31_2 := blk_frozen BK353.out 2; have hfz31_3 := blk_frozen BK353.out 3; have hfz31_4 := blk_frozen BK353.out 4; have hfz31_5 := blk_frozen BK353.out 5; have p360 : 0 ≤ ((ji24) : Int) := oa; have q360 : (ji24) < (l0_4.length : Int) := oa; obtain ⟨ad360, e360, hx360_0, hx360_1⟩ := at_T83 HR0_4.out (ji24) p360 q360; obtain rfl : ad356 = ad360 := (by injection e360); have hn360_0 : ad356.block ≠ gb357 := Nat.ne_of_lt (Nat.lt_of_lt_of_le (by have := World.block_lt_of_cell? _ _ hx360_0; first | rwa [add_block] at this | exact this) GW357.out); have hn360_1 : ad356.block ≠ gb357 := Nat.ne_of_lt (Nat.lt_of_lt_of_le (by have := World.block_lt_of_cell? _ _ hx360_0; first | rwa [add_block] at this | exact this) GW357.out); replace hx360_0 := (HB.out.cell (World.block_lt_of_cell? w _ hx360_0)).trans hx360_0; replace hx360_1 := (HB.out.cell (World.block_lt_of_cell? w _ hx360_1)).trans hx360_1; replace hx360_0 := (cell_far (p := ⟨gb357, 0, none⟩) (by first | (rw [add_block]; exact hn360_0) | (show (Addr.add _ _).block ≠ _; rw [add_block]; exact hn360_0) | exact hn360_0) (.string ((rd_T83 l0_4 x30_2).f0))).trans hx360_0; replace hx360_1 := (cell_far (p := ⟨gb357, 0, none⟩) (by first | (rw [add_block]; exact hn360_0) | (show (Addr.add _ _).block ≠ _; rw [add_block]; exact hn360_0) | exact hn360_0) (.string ((rd_T83 l0_4 x30_2).f0))).trans hx360_1; replace hx360_0 := (cell_far (p := ⟨gb357, 1, none⟩) (by first | (rw [add_block]; exact hn360_1) | (show (Addr.add _ _).block ≠ _; rw [add_block]; exact hn360_1) | exact hn360_1) (.int .i64 ((rd_T83 l0_4 x30_2).f1))).trans hx360_0; replace hx360_1 := (cell_far (p := ⟨gb357, 1, none⟩) (by first | (rw [add_block]; exact hn360_1) | (show (Addr.add _ _).block ≠ _; rw [add_block]; exact hn360_1) | exact hn360_1) (.int .i64 ((rd_T83 l0_4 x30_2).f1))).trans hx360_1; (try have hy360_0 := fun (n_ : Nat) => (show ((((w28.drewN n_).setCell ⟨gb357, 0, none⟩ (.string ((rd_T83 l0_4 x30_2).f0))).setCell ⟨gb357, 1, none⟩ (.int .i64 ((rd_T83 l0_4 x30_2).f1)))).cell? _ = some _ from hx360_0)); (try have hy360_1 := fun (n_ : Nat) => (show ((((w28.drewN n_).setCell ⟨gb357, 0, none⟩ (.string ((rd_T83 l0_4 x30_2).f0))).setCell ⟨gb357, 1, none⟩ (.int .i64 ((rd_T83 l0_4 x30_2).f1)))).cell? _ = some _ from hx360_1)); clear hn360_0; clear hn360_1; replace p360 := eq_true p360; replace q360 := eq_true q360)); try go_wp2_with (first | ((with_reducible refine gate_dst (N := 4) rfl ?_); (try (refine gate_guard (by rfl) ?_; dsimp only)); refine box_event ?hg (N := 4) ?hd (cs := #[.string (⟨#[]⟩ : ByteArray), .int .i64 0]) (t := 83) ?hr ?_; (case hd => rfl); (case hg => rfl); (case hr => first | (go_simp; done) | (go_simp; rfl)); intro gb357 hg w28 hbox hb; have n0_ := Aside0.mk (blk_below (g := gb353) (o := .cells #[.int .i64 a0_0, .int .i64 a0_1, .int .i64 a0_2, .slice A0_3 l0_3.length c0_3, .slice (some ad356) l0_4.length c0_4, .slice A0_5 l0_5.length c0_5] 45 (0, 0)) (by (with_reducible repeat (first | refine blk_drewN ?_ _ | refine blk_drew ?_ | refine blk_alloc ?_ _)); exact BK353.out) hb); have n1_ := Aside0.mk (below_step (by repeat (first | (with_reducible first | exact HB.out | apply below_alloc | apply pw_below_drewN | apply below_drew1 | refine below_set ?_ GE353.out) | exact HB.out)) hb); have n2_ := Aside0.mk (hbox); have n3_ := Aside0.mk ((by rw [hg]; exact (below_size (by repeat (first | (with_reducible first | exact HB.out | apply below_alloc | apply pw_below_drewN | apply below_drew1 | refine below_set ?_ GE353.out) | exact HB.out))) : w.heap.size ≤ gb357)); have n4_ := Aside0.mk ((by rw [hg]; exact (below_size (by repeat (first | (with_reducible first | exact HB.out | apply below_alloc | apply pw_below_drewN | apply below_drew1 | refine below_set ?_ GE353.out) | exact HB.out))) : w.heap.size ≤ gb357)); have n5_ := Aside0.mk ((by rw [hg]; exact Nat.ne_of_lt (blk_lt (g := gb353) (o := .cells #[.int .i64 a0_0, .int .i64 a0_1, .int .i64 a0_2, .slice A0_3 l0_3.length c0_3, .slice (some ad356) l0_4.length c0_4, .slice A0_5 l0_5.length c0_5] 45 (0, 0)) (by (with_reducible repeat (first | refine blk_drewN ?_ _ | refine blk_drew ?_ | refine blk_alloc ?_ _)); exact BK353.out)) : gb353 ≠ gb357)); have n6_ := Aside0.mk ((by rw [hg]; exact Nat.ne_of_gt (blk_lt (g := gb353) (o := .cells #[.int .i64 a0_0, .int .i64 a0_1, .int .i64 a0_2, .slice A0_3 l0_3.length c0_3, .slice (some ad356) l0_4.length c0_4, .slice A0_5 l0_5.length c0_5] 45 (0, 0)) (by (with_reducible repeat (first | refine blk_drewN ?_ _ | refine blk_drew ?_ | refine blk_alloc ?_ _)); exact BK353.out)) : gb357 ≠ gb353)); clear BK353; clear HB; have BK353 := n0_; have HB := n1_; have BK357 := n2_; have GW357 := n3_; have GE357 := n4_; have NB353_357 := n5_; have NB357_353 := n6_; clear n0_ n1_ n2_ n3_ n4_ n5_ n6_; clear hb hbox hg; have hnb29 := NB357_353.out; have hnc29 := NB353_357.out; have hcz30_0 : w28.cell? ⟨gb357, 0, none⟩ = some (.string (⟨#[]⟩ : ByteArray)) := (blk_cell BK357.out 0).trans rfl; have hcz30_1 : w28.cell? ⟨gb357, 1, none⟩ = some (.int .i64 0) := (blk_cell BK357.out 1).trans rfl; have hfz30_0 := blk_frozen BK357.out 0; have hfz30_1 := blk_frozen BK357.out 1) | (go_at_call 92; (with_reducible refine (impl_NameOk.calls k2 ((rd_T83 l0_4 x30_2).f0) true _ A19.out).mono ?_); rintro e w' ⟨rfl, ⟨nd, rfl⟩⟩; (try first | exact ⟨rfl, _, World.drewN_drewN _ _ _⟩ | exact ⟨rfl, _, Eq.trans (World.drewN_drewN _ _ _) (congrArg (World.drewN _) (Nat.add_assoc _ _ _))⟩)) | (go_at_call 90; (with_reducible refine (impl_from.calls ((rd_T83 l0_4 x30_2).f1) 2 1000 true _ A21.out).mono ?_); rintro e w' ⟨rfl, ⟨nd, rfl⟩⟩; (try first | exact ⟨rfl, _, World.drewN_drewN _ _ _⟩ | exact ⟨rfl, _, Eq.trans (World.drewN_drewN _ _ _) (congrArg (World.drewN _) (Nat.add_assoc _ _ _))⟩); have hcz31_0 : w28.cell? ⟨gb353, 0, none⟩ = some (.int .i64 a0_0) := (blk_cell BK353.out 0).trans rfl; have hcz31_1 : w28.cell? ⟨gb353, 1, none⟩ = some (.int .i64 a0_1) := (blk_cell BK353.out 1).trans rfl; have hcz31_2 : w28.cell? ⟨gb353, 2, none⟩ = some (.int .i64 a0_2) := (blk_cell BK353.out 2).trans rfl; have hcz31_3 : w28.cell? ⟨gb353, 3, none⟩ = some (.slice A0_3 l0_3.length c0_3) := (blk_cell BK353.out 3).trans rfl; have hcz31_4 : w28.cell? ⟨gb353, 4, none⟩ = some (.slice (some ad356) l0_4.length c0_4) := (blk_cell BK353.out 4).trans rfl; have hcz31_5 : w28.cell? ⟨gb353, 5, none⟩ = some (.slice A0_5 l0_5.length c0_5) := (blk_cell BK353.out 5).trans rfl; have hfz31_0 := blk_frozen BK353.out 0; have hfz31_1 := blk_frozen BK353.out 1; have hfz31_2 := blk_frozen BK353.out 2; have hfz31_3 := blk_frozen BK353.out 3; have hfz31_4 := blk_frozen BK353.out 4; have hfz31_5 := blk_frozen BK353.out 5; have p360 : 0 ≤ ((ji24) : Int) := oa; have q360 : (ji24) < (l0_4.length : Int) := oa; obtain ⟨ad360, e360, hx360_0, hx360_1⟩ := at_T83 HR0_4.out (ji24) p360 q360; obtain rfl : ad356 = ad360 := (by injection e360); have hn360_0 : ad356.block ≠ gb357 := Nat.ne_of_lt (Nat.lt_of_lt_of_le (by have := World.block_lt_of_cell? _ _ hx360_0; first | rwa [add_block] at this | exact this) GW357.out); have hn360_1 : ad356.block ≠ gb357 := Nat.ne_of_lt (Nat.lt_of_lt_of_le (by have := World.block_lt_of_cell? _ _ hx360_0; first | rwa [add_block] at this | exact this) GW357.out); replace hx360_0 := (HB.out.cell (World.block_lt_of_cell? w _ hx360_0)).trans hx360_0; replace hx360_1 := (HB.out.cell (World.block_lt_of_cell? w _ hx360_1)).trans hx360_1; replace hx360_0 := (cell_far (p := ⟨gb357, 0, none⟩) (by first | (rw [add_block]; exact hn360_0) | (show (Addr.add _ _).block ≠ _; rw [add_block]; exact hn360_0) | exact hn360_0) (.string ((rd_T83 l0_4 x30_2).f0))).trans hx360_0; replace hx360_1 := (cell_far (p := ⟨gb357, 0, none⟩) (by first | (rw [add_block]; exact hn360_0) | (show (Addr.add _ _).block ≠ _; rw [add_block]; exact hn360_0) | exact hn360_0) (.string ((rd_T83 l0_4 x30_2).f0))).trans hx360_1; replace hx360_0 := (cell_far (p := ⟨gb357, 1, none⟩) (by first | (rw [add_block]; exact hn360_1) | (show (Addr.add _ _).block ≠ _; rw [add_block]; exact hn360_1) | exact hn360_1) (.int .i64 ((rd_T83 l0_4 x30_2).f1))).trans hx360_0; replace hx360_1 := (cell_far (p := ⟨gb357, 1, none⟩) (by first | (rw [add_block]; exact hn360_1) | (show (Addr.add _ _).block ≠ _; rw [add_block]; exact hn360_1) | exact hn360_1) (.int .i64 ((rd_T83 l0_4 x30_2).f1))).trans hx360_1; (try have hy360_0 := fun (n_ : Nat) => (show ((((w28.drewN n_).setCell ⟨gb357, 0, none⟩ (.string ((rd_T83 l0_4 x30_2).f0))).setCell ⟨gb357, 1, none⟩ (.int .i64 ((rd_T83 l0_4 x30_2).f1)))).cell? _ = some _ from hx360_0)); (try have hy360_1 := fun (n_ : Nat) => (show ((((w28.drewN n_).setCell ⟨gb357, 0, none⟩ (.string ((rd_T83 l0_4 x30_2).f0))).setCell ⟨gb357, 1, none⟩ (.int .i64 ((rd_T83 l0_4 x30_2).f1)))).cell? _ = some _ from hx360_1)); clear hn360_0; clear hn360_1; replace p360 := eq_true p360; replace q360 := eq_true q360)))
               go_roundg k2
               case measure => have := HJ1.out; have := HK2.out; omega
               case rel => exact ⟨(wrap64 (x30_2 + 1)), oS, H', ⟨by have := HJ1.out; have := HK2.out; omega⟩, ⟨by (with_reducible repeat (first | refine blk_drewN ?_ _ | refine blk_drew ?_ | refine blk_alloc ?_ _)); refine blk_far ?_ NB353_357.out _; (with_reducible repeat (first | refine blk_drewN ?_ _ | refine blk_drew ?_ | refine blk_alloc ?_ _)); refine blk_far ?_ NB353_357.out _; (with_reducible repeat (first | refine blk_drewN ?_ _ | refine blk_drew ?_ | refine blk_alloc ?_ _)); exact BK353.out⟩, ⟨by repeat (first | (with_reducible first | exact HB.out | apply below_alloc | apply pw_below_drewN | apply below_drew1 | refine below_set ?_ GE353.out | refine below_set ?_ GE357.out) | exact HB.out)⟩⟩
              ·rw [if_neg c27] at H
               have c27b0 : (Op.bytesLess (((rd_T83 l0_4 (ji24)).f0).toList) (((rd_T83 l0_4 x30_2).f0).toList)) = false := by simpa using c27
               clear c27
               obtain rfl := Option.some.inj H
               have p356 : 0 ≤ (x30_2 : Int) := oa
               have q356 : x30_2 < (l0_4.length : Int) := oa
               obtain ⟨ad356, e356, hx356_0, hx356_1⟩ := at_T83 HR0_4.out x30_2 p356 q356
               cases e356
               replace hx356_0 := (HB.out.cell (World.block_lt_of_cell? w _ hx356_0)).trans hx356_0
               replace hx356_1 := (HB.out.cell (World.block_lt_of_cell? w _ hx356_1)).trans hx356_1
               replace p356 := eq_true p356
               replace q356 := eq_true q356
               go_wp2_with (first | ((with_reducible refine gate_dst (N := 4) rfl ?_); (try (refine gate_guard (by rfl) ?_; dsimp only)); refine box_event ?hg (N := 4) ?hd (cs := #[.string (⟨#[]⟩ : ByteArray), .int .i64 0]) (t := 83) ?hr ?_; (case hd => rfl); (case hg => rfl); (case hr => first | (go_simp; done) | (go_simp; rfl)); intro gb357 hg w32 hbox hb; have n0_ := Aside0.mk (blk_below (g := gb353) (o := .cells #[.int .i64 a0_0, .int .i64 a0_1, .int .i64 a0_2, .slice A0_3 l0_3.length c0_3, .slice (some ad356) l0_4.length c0_4, .slice A0_5 l0_5.length c0_5] 45 (0, 0)) (by (with_reducible repeat (first | refine blk_drewN ?_ _ | refine blk_drew ?_ | refine blk_alloc ?_ _)); exact BK353.out) hb); have n1_ := Aside0.mk (below_step (by repeat (first | (with_reducible first | exact HB.out | apply below_alloc | apply pw_below_drewN | apply below_drew1 | refine below_set ?_ GE353.out) | exact HB.out)) hb); have n2_ := Aside0.mk (hbox); have n3_ := Aside0.mk ((by rw [hg]; exact (below_size (by repeat (first | (with_reducible first | exact HB.out | apply below_alloc | apply pw_below_drewN | apply below_drew1 | refine below_set ?_ GE353.out) | exact HB.out))) : w.heap.size ≤ gb357)); have n4_ := Aside0.mk ((by rw [hg]; exact (below_size (by repeat (first | (with_reducible first | exact HB.out | apply below_alloc | apply pw_below_drewN | apply below_drew1 | refine below_set ?_ GE353.out) | exact HB.out))) : w.heap.size ≤ gb357)); have n5_ := Aside0.mk ((by rw [hg]; exact Nat.ne_of_lt (blk_lt (g := gb353) (o := .cells #[.int .i64 a0_0, .int .i64 a0_1, .int .i64 a0_2, .slice A0_3 l0_3.length c0_3, .slice (some ad356) l0_4.length c0_4, .slice A0_5 l0_5.length c0_5] 45 (0, 0)) (by (with_reducible repeat (first | refine blk_drewN ?_ _ | refine blk_drew ?_ | refine blk_alloc ?_ _)); exact BK353.out)) : gb353 ≠ gb357)); have n6_ := Aside0.mk ((by rw [hg]; exact Nat.ne_of_gt (blk_lt (g := gb353) (o := .cells #[.int .i64 a0_0, .int .i64 a0_1, .int .i64 a0_2, .slice A0_3 l0_3.length c0_3, .slice (some ad356) l0_4.length c0_4, .slice A0_5 l0_5.length c0_5] 45 (0, 0)) (by (with_reducible repeat (first | refine blk_drewN ?_ _ | refine blk_drew ?_ | refine blk_alloc ?_ _)); exact BK353.out)) : gb357 ≠ gb353)); clear BK353; clear HB; have BK353 := n0_; have HB := n1_; have BK357 := n2_; have GW357 := n3_; have GE357 := n4_; have NB353_357 := n5_; have NB357_353 := n6_; clear n0_ n1_ n2_ n3_ n4_ n5_ n6_; clear hb hbox hg; have hnb33 := NB357_353.out; have hnc33 := NB353_357.out; have hcz34_0 : w32.cell? ⟨gb357, 0, none⟩ = some (.string (⟨#[]⟩ : ByteArray)) := (blk_cell BK357.out 0).trans rfl; have hcz34_1 : w32.cell? ⟨gb357, 1, none⟩ = some (.int .i64 0) := (blk_cell BK357.out 1).trans rfl; have hfz34_0 := blk_frozen BK357.out 0; have hfz34_1 := blk_frozen BK357.out 1) | (go_at_call 92; (with_reducible refine (impl_NameOk.calls k2 ((rd_T83 l0_4 x30_2).f0) true _ A19.out).mono ?_); rintro e w' ⟨rfl, ⟨nd, rfl⟩⟩; (try first | exact ⟨rfl, _, World.drewN_drewN _ _ _⟩ | exact ⟨rfl, _, Eq.trans (World.drewN_drewN _ _ _) (congrArg (World.drewN _) (Nat.add_assoc _ _ _))⟩)) | (go_at_call 90; (with_reducible refine (impl_from.calls ((rd_T83 l0_4 x30_2).f1) 2 1000 true _ A21.out).mono ?_); rintro e w' ⟨rfl, ⟨nd, rfl⟩⟩; (try first | exact ⟨rfl, _, World.drewN_drewN _ _ _⟩ | exact ⟨rfl, _, Eq.trans (World.drewN_drewN _ _ _) (congrArg (World.drewN _) (Nat.add_assoc _ _ _))⟩); have hcz35_0 : w32.cell? ⟨gb353, 0, none⟩ = some (.int .i64 a0_0) := (blk_cell BK353.out 0).trans rfl; have hcz35_1 : w32.cell? ⟨gb353, 1, none⟩ = some (.int .i64 a0_1) := (blk_cell BK353.out 1).trans rfl; have hcz35_2 : w32.cell? ⟨gb353, 2, none⟩ = some (.int .i64 a0_2) := (blk_cell BK353.out 2).trans rfl; have hcz35_3 : w32.cell? ⟨gb353, 3, none⟩ = some (.slice A0_3 l0_3.length c0_3) := (blk_cell BK353.out 3).trans rfl; have hcz35_4 : w32.cell? ⟨gb353, 4, none⟩ = some (.slice (some ad356) l0_4.length c0_4) := (blk_cell BK353.out 4).trans rfl; have hcz35_5 : w32.cell? ⟨gb353, 5, none⟩ = some (.slice A0_5 l0_5.length c0_5) := (blk_cell BK353.out 5).trans rfl; have hfz35_0 := blk_frozen BK353.out 0; have hfz35_1 := blk_frozen BK353.out 1; have hfz35_2 := blk_frozen BK353.out 2; have hfz35_3 := blk_frozen BK353.out 3; have hfz35_4 := blk_frozen BK353.out 4; have hfz35_5 := blk_frozen BK353.out 5; have p360 : 0 ≤ ((ji24) : Int) := oa; have q360 : (ji24) < (l0_4.length : Int) := oa; obtain ⟨ad360, e360, hx360_0, hx360_1⟩ := at_T83 HR0_4.out (ji24) p360 q360; obtain rfl : ad356 = ad360 := (by injection e360); have hn360_0 : ad356.block ≠ gb357 := Nat.ne_of_lt (Nat.lt_of_lt_of_le (by have := World.block_lt_of_cell? _ _ hx360_0; first | rwa [add_block] at this | exact this) GW357.out); have hn360_1 : ad356.block ≠ gb357 := Nat.ne_of_lt (Nat.lt_of_lt_of_le (by have := World.block_lt_of_cell? _ _ hx360_0; first | rwa [add_block] at this | exact this) GW357.out); replace hx360_0 := (HB.out.cell (World.block_lt_of_cell? w _ hx360_0)).trans hx360_0; replace hx360_1 := (HB.out.cell (World.block_lt_of_cell? w _ hx360_1)).trans hx360_1; replace hx360_0 := (cell_far (p := ⟨gb357, 0, none⟩) (by first | (rw [add_block]; exact hn360_0) | (show (Addr.add _ _).block ≠ _; rw [add_block]; exact hn360_0) | exact hn360_0) (.string ((rd_T83 l0_4 x30_2).f0))).trans hx360_0; replace hx360_1 := (cell_far (p := ⟨gb357, 0, none⟩) (by first | (rw [add_block]; exact hn360_0) | (show (Addr.add _ _).block ≠ _; rw [add_block]; exact hn360_0) | exact hn360_0) (.string ((rd_T83 l0_4 x30_2).f0))).trans hx360_1; replace hx360_0 := (cell_far (p := ⟨gb357, 1, none⟩) (by first | (rw [add_block]; exact hn360_1) | (show (Addr.add _ _).block ≠ _; rw [add_block]; exact hn360_1) | exact hn360_1) (.int .i64 ((rd_T83 l0_4 x30_2).f1))).trans hx360_0; replace hx360_1 := (cell_far (p := ⟨gb357, 1, none⟩) (by first | (rw [add_block]; exact hn360_1) | (show (Addr.add _ _).block ≠ _; rw [add_block]; exact hn360_1) | exact hn360_1) (.int .i64 ((rd_T83 l0_4 x30_2).f1))).trans hx360_1; (try have hy360_0 := fun (n_ : Nat) => (show ((((w32.drewN n_).setCell ⟨gb357, 0, none⟩ (.string ((rd_T83 l0_4 x30_2).f0))).setCell ⟨gb357, 1, none⟩ (.int .i64 ((rd_T83 l0_4 x30_2).f1)))).cell? _ = some _ from hx360_0)); (try have hy360_1 := fun (n_ : Nat) => (show ((((w32.drewN n_).setCell ⟨gb357, 0, none⟩ (.string ((rd_T83 l0_4 x30_2).f0))).setCell ⟨gb357, 1, none⟩ (.int .i64 ((rd_T83 l0_4 x30_2).f1)))).cell? _ = some _ from hx360_1)); clear hn360_0; clear hn360_1; replace p360 := eq_true p360; replace q360 := eq_true q360))
               repeat (go_quiet (first | ((with_reducible refine gate_dst (N := 4) rfl ?_); (try (refine gate_guard (by rfl) ?_; dsimp only)); refine box_event ?hg (N := 4) ?hd (cs := #[.string (⟨#[]⟩ : ByteArray), .int .i64 0]) (t := 83) ?hr ?_; (case hd => rfl); (case hg => rfl); (case hr => first | (go_simp; done) | (go_simp; rfl)); intro gb357 hg w32 hbox hb; have n0_ := Aside0.mk (blk_below (g := gb353) (o := .cells #[.int .i64 a0_0, .int .i64 a0_1, .int .i64 a0_2, .slice A0_3 l0_3.length c0_3, .slice (some ad356) l0_4.length c0_4, .slice A0_5 l0_5.length c0_5] 45 (0, 0)) (by (with_reducible repeat (first | refine blk_drewN ?_ _ | refine blk_drew ?_ | refine blk_alloc ?_ _)); exact BK353.out) hb); have n1_ := Aside0.mk (below_step (by repeat (first | (with_reducible first | exact HB.out | apply below_alloc | apply pw_below_drewN | apply below_drew1 | refine below_set ?_ GE353.out) | exact HB.out)) hb); have n2_ := Aside0.mk (hbox); have n3_ := Aside0.mk ((by rw [hg]; exact (below_size (by repeat (first | (with_reducible first | exact HB.out | apply below_alloc | apply pw_below_drewN | apply below_drew1 | refine below_set ?_ GE353.out) | exact HB.out))) : w.heap.size ≤ gb357)); have n4_ := Aside0.mk ((by rw [hg]; exact (below_size (by repeat (first | (with_reducible first | exact HB.out | apply below_alloc | apply pw_below_drewN | apply below_drew1 | refine below_set ?_ GE353.out) | exact HB.out))) : w.heap.size ≤ gb357)); have n5_ := Aside0.mk ((by rw [hg]; exact Nat.ne_of_lt (blk_lt (g := gb353) (o := .cells #[.int .i64 a0_0, .int .i64 a0_1, .int .i64 a0_2, .slice A0_3 l0_3.length c0_3, .slice (some ad356) l0_4.length c0_4, .slice A0_5 l0_5.length c0_5] 45 (0, 0)) (by (with_reducible repeat (first | refine blk_drewN ?_ _ | refine blk_drew ?_ | refine blk_alloc ?_ _)); exact BK353.out)) : gb353 ≠ gb357)); have n6_ := Aside0.mk ((by rw [hg]; exact Nat.ne_of_gt (blk_lt (g := gb353) (o := .cells #[.int .i64 a0_0, .int .i64 a0_1, .int .i64 a0_2, .slice A0_3 l0_3.length c0_3, .slice (some ad356) l0_4.length c0_4, .slice A0_5 l0_5.length c0_5] 45 (0, 0)) (by (with_reducible repeat (first | refine blk_drewN ?_ _ | refine blk_drew ?_ | refine blk_alloc ?_ _)); exact BK353.out)) : gb357 ≠ gb353)); clear BK353; clear HB; have BK353 := n0_; have HB := n1_; have BK357 := n2_; have GW357 := n3_; have GE357 := n4_; have NB353_357 := n5_; have NB357_353 := n6_; clear n0_ n1_ n2_ n3_ n4_ n5_ n6_; clear hb hbox hg; have hnb33 := NB357_353.out; have hnc33 := NB353_357.out; have hcz34_0 : w32.cell? ⟨gb357, 0, none⟩ = some (.string (⟨#[]⟩ : ByteArray)) := (blk_cell BK357.out 0).trans rfl; have hcz34_1 : w32.cell? ⟨gb357, 1, none⟩ = some (.int .i64 0) := (blk_cell BK357.out 1).trans rfl; have hfz34_0 := blk_frozen BK357.out 0; have hfz34_1 := blk_frozen BK357.out 1) | (go_at_call 92; (with_reducible refine (impl_NameOk.calls k2 ((rd_T83 l0_4 x30_2).f0) true _ A19.out).mono ?_); rintro e w' ⟨rfl, ⟨nd, rfl⟩⟩; (try first | exact ⟨rfl, _, World.drewN_drewN _ _ _⟩ | exact ⟨rfl, _, Eq.trans (World.drewN_drewN _ _ _) (congrArg (World.drewN _) (Nat.add_assoc _ _ _))⟩)) | (go_at_call 90; (with_reducible refine (impl_from.calls ((rd_T83 l0_4 x30_2).f1) 2 1000 true _ A21.out).mono ?_); rintro e w' ⟨rfl, ⟨nd, rfl⟩⟩; (try first | exact ⟨rfl, _, World.drewN_drewN _ _ _⟩ | exact ⟨rfl, _, Eq.trans (World.drewN_drewN _ _ _) (congrArg (World.drewN _) (Nat.add_assoc _ _ _))⟩); have hcz35_0 : w32.cell? ⟨gb353, 0, none⟩ = some (.int .i64 a0_0) := (blk_cell BK353.out 0).trans rfl; have hcz35_1 : w32.cell? ⟨gb353, 1, none⟩ = some (.int .i64 a0_1) := (blk_cell BK353.out 1).trans rfl; have hcz35_2 : w32.cell? ⟨gb353, 2, none⟩ = some (.int .i64 a0_2) := (blk_cell BK353.out 2).trans rfl; have hcz35_3 : w32.cell? ⟨gb353, 3, none⟩ = some (.slice A0_3 l0_3.length c0_3) := (blk_cell BK353.out 3).trans rfl; have hcz35_4 : w32.cell? ⟨gb353, 4, none⟩ = some (.slice (some ad356) l0_4.length c0_4) := (blk_cell BK353.out 4).trans rfl; have hcz35_5 : w32.cell? ⟨gb353, 5, none⟩ = some (.slice A0_5 l0_5.length c0_5) := (blk_cell BK353.out 5).trans rfl; have hfz35_0 := blk_frozen BK353.out 0; have hfz35_1 := blk_frozen BK353.out 1; have hfz35_2 := blk_frozen BK353.out 2; have hfz35_3 := blk_frozen BK353.out 3; have hfz35_4 := blk_frozen BK353.out 4; have hfz35_5 := blk_frozen BK353.out 5; have p360 : 0 ≤ ((ji24) : Int) := oa; have q360 : (ji24) < (l0_4.length : Int) := oa; obtain ⟨ad360, e360, hx360_0, hx360_1⟩ := at_T83 HR0_4.out (ji24) p360 q360; obtain rfl : ad356 = ad360 := (by injection e360); have hn360_0 : ad356.block ≠ gb357 := Nat.ne_of_lt (Nat.lt_of_lt_of_le (by have := World.block_lt_of_cell? _ _ hx360_0; first | rwa [add_block] at this | exact this) GW357.out); have hn360_1 : ad356.block ≠ gb357 := Nat.ne_of_lt (Nat.lt_of_lt_of_le (by have := World.block_lt_of_cell? _ _ hx360_0; first | rwa [add_block] at this | exact this) GW357.out); replace hx360_0 := (HB.out.cell (World.block_lt_of_cell? w _ hx360_0)).trans hx360_0; replace hx360_1 := (HB.out.cell (World.block_lt_of_cell? w _ hx360_1)).trans hx360_1; replace hx360_0 := (cell_far (p := ⟨gb357, 0, none⟩) (by first | (rw [add_block]; exact hn360_0) | (show (Addr.add _ _).block ≠ _; rw [add_block]; exact hn360_0) | exact hn360_0) (.string ((rd_T83 l0_4 x30_2).f0))).trans hx360_0; replace hx360_1 := (cell_far (p := ⟨gb357, 0, none⟩) (by first | (rw [add_block]; exact hn360_0) | (show (Addr.add _ _).block ≠ _; rw [add_block]; exact hn360_0) | exact hn360_0) (.string ((rd_T83 l0_4 x30_2).f0))).trans hx360_1; replace hx360_0 := (cell_far (p := ⟨gb357, 1, none⟩) (by first | (rw [add_block]; exact hn360_1) | (show (Addr.add _ _).block ≠ _; rw [add_block]; exact hn360_1) | exact hn360_1) (.int .i64 ((rd_T83 l0_4 x30_2).f1))).trans hx360_0; replace hx360_1 := (cell_far (p := ⟨gb357, 1, none⟩) (by first | (rw [add_block]; exact hn360_1) | (show (Addr.add _ _).block ≠ _; rw [add_block]; exact hn360_1) | exact hn360_1) (.int .i64 ((rd_T83 l0_4 x30_2).f1))).trans hx360_1; (try have hy360_0 := fun (n_ : Nat) => (show ((((w32.drewN n_).setCell ⟨gb357, 0, none⟩ (.string ((rd_T83 l0_4 x30_2).f0))).setCell ⟨gb357, 1, none⟩ (.int .i64 ((rd_T83 l0_4 x30_2).f1)))).cell? _ = some _ from hx360_0)); (try have hy360_1 := fun (n_ : Nat) => (show ((((w32.drewN n_).setCell ⟨gb357, 0, none⟩ (.string ((rd_T83 l0_4 x30_2).f0))).setCell ⟨gb357, 1, none⟩ (.int .i64 ((rd_T83 l0_4 x30_2).f1)))).cell? _ = some _ from hx360_1)); clear hn360_0; clear hn360_1; replace p360 := eq_true p360; replace q360 := eq_true q360)); try go_wp2_with (first | ((with_reducible refine gate_dst (N := 4) rfl ?_); (try (refine gate_guard (by rfl) ?_; dsimp only)); refine box_event ?hg (N := 4) ?hd (cs := #[.string (⟨#[]⟩ : ByteArray), .int .i64 0]) (t := 83) ?hr ?_; (case hd => rfl); (case hg => rfl); (case hr => first | (go_simp; done) | (go_simp; rfl)); intro gb357 hg w32 hbox hb; have n0_ := Aside0.mk (blk_below (g := gb353) (o := .cells #[.int .i64 a0_0, .int .i64 a0_1, .int .i64 a0_2, .slice A0_3 l0_3.length c0_3, .slice (some ad356) l0_4.length c0_4, .slice A0_5 l0_5.length c0_5] 45 (0, 0)) (by (with_reducible repeat (first | refine blk_drewN ?_ _ | refine blk_drew ?_ | refine blk_alloc ?_ _)); exact BK353.out) hb); have n1_ := Aside0.mk (below_step (by repeat (first | (with_reducible first | exact HB.out | apply below_alloc | apply pw_below_drewN | apply below_drew1 | refine below_set ?_ GE353.out) | exact HB.out)) hb); have n2_ := Aside0.mk (hbox); have n3_ := Aside0.mk ((by rw [hg]; exact (below_size (by repeat (first | (with_reducible first | exact HB.out | apply below_alloc | apply pw_below_drewN | apply below_drew1 | refine below_set ?_ GE353.out) | exact HB.out))) : w.heap.size ≤ gb357)); have n4_ := Aside0.mk ((by rw [hg]; exact (below_size (by repeat (first | (with_reducible first | exact HB.out | apply below_alloc | apply pw_below_drewN | apply below_drew1 | refine below_set ?_ GE353.out) | exact HB.out))) : w.heap.size ≤ gb357)); have n5_ := Aside0.mk ((by rw [hg]; exact Nat.ne_of_lt (blk_lt (g := gb353) (o := .cells #[.int .i64 a0_0, .int .i64 a0_1, .int .i64 a0_2, .slice A0_3 l0_3.length c0_3, .slice (some ad356) l0_4.length c0_4, .slice A0_5 l0_5.length c0_5] 45 (0, 0)) (by (with_reducible repeat (first | refine blk_drewN ?_ _ | refine blk_drew ?_ | refine blk_alloc ?_ _)); exact BK353.out)) : gb353 ≠ gb357)); have n6_ := Aside0.mk ((by rw [hg]; exact Nat.ne_of_gt (blk_lt (g := gb353) (o := .cells #[.int .i64 a0_0, .int .i64 a0_1, .int .i64 a0_2, .slice A0_3 l0_3.length c0_3, .slice (some ad356) l0_4.length c0_4, .slice A0_5 l0_5.length c0_5] 45 (0, 0)) (by (with_reducible repeat (first | refine blk_drewN ?_ _ | refine blk_drew ?_ | refine blk_alloc ?_ _)); exact BK353.out)) : gb357 ≠ gb353)); clear BK353; clear HB; have BK353 := n0_; have HB := n1_; have BK357 := n2_; have GW357 := n3_; have GE357 := n4_; have NB353_357 := n5_; have NB357_353 := n6_; clear n0_ n1_ n2_ n3_ n4_ n5_ n6_; clear hb hbox hg; have hnb33 := NB357_353.out; have hnc33 := NB353_357.out; have hcz34_0 : w32.cell? ⟨gb357, 0, none⟩ = some (.string (⟨#[]⟩ : ByteArray)) := (blk_cell BK357.out 0).trans rfl; have hcz34_1 : w32.cell? ⟨gb357, 1, none⟩ = some (.int .i64 0) := (blk_cell BK357.out 1).trans rfl; have hfz34_0 := blk_frozen BK357.out 0; have hfz34_1 := blk_frozen BK357.out 1) | (go_at_call 92; (with_reducible refine (impl_NameOk.calls k2 ((rd_T83 l0_4 x30_2).f0) true _ A19.out).mono ?_); rintro e w' ⟨rfl, ⟨nd, rfl⟩⟩; (try first | exact ⟨rfl, _, World.drewN_drewN _ _ _⟩ | exact ⟨rfl, _, Eq.trans (World.drewN_drewN _ _ _) (congrArg (World.drewN _) (Nat.add_assoc _ _ _))⟩)) | (go_at_call 90; (with_reducible refine (impl_from.calls ((rd_T83 l0_4 x30_2).f1) 2 1000 true _ A21.out).mono ?_); rintro e w' ⟨rfl, ⟨nd, rfl⟩⟩; (try first | exact ⟨rfl, _, World.drewN_drewN _ _ _⟩ | exact ⟨rfl, _, Eq.trans (World.drewN_drewN _ _ _) (congrArg (World.drewN _) (Nat.add_assoc _ _ _))⟩); have hcz35_0 : w32.cell? ⟨gb353, 0, none⟩ = some (.int .i64 a0_0) := (blk_cell BK353.out 0).trans rfl; have hcz35_1 : w32.cell? ⟨gb353, 1, none⟩ = some (.int .i64 a0_1) := (blk_cell BK353.out 1).trans rfl; have hcz35_2 : w32.cell? ⟨gb353, 2, none⟩ = some (.int .i64 a0_2) := (blk_cell BK353.out 2).trans rfl; have hcz35_3 : w32.cell? ⟨gb353, 3, none⟩ = some (.slice A0_3 l0_3.length c0_3) := (blk_cell BK353.out 3).trans rfl; have hcz35_4 : w32.cell? ⟨gb353, 4, none⟩ = some (.slice (some ad356) l0_4.length c0_4) := (blk_cell BK353.out 4).trans rfl; have hcz35_5 : w32.cell? ⟨gb353, 5, none⟩ = some (.slice A0_5 l0_5.length c0_5) := (blk_cell BK353.out 5).trans rfl; have hfz35_0 := blk_frozen BK353.out 0; have hfz35_1 := blk_frozen BK353.out 1; have hfz35_2 := blk_frozen BK353.out 2; have hfz35_3 := blk_frozen BK353.out 3; have hfz35_4 := blk_frozen BK353.out 4; have hfz35_5 := blk_frozen BK353.out 5; have p360 : 0 ≤ ((ji24) : Int) := oa; have q360 : (ji24) < (l0_4.length : Int) := oa; obtain ⟨ad360, e360, hx360_0, hx360_1⟩ := at_T83 HR0_4.out (ji24) p360 q360; obtain rfl : ad356 = ad360 := (by injection e360); have hn360_0 : ad356.block ≠ gb357 := Nat.ne_of_lt (Nat.lt_of_lt_of_le (by have := World.block_lt_of_cell? _ _ hx360_0; first | rwa [add_block] at this | exact this) GW357.out); have hn360_1 : ad356.block ≠ gb357 := Nat.ne_of_lt (Nat.lt_of_lt_of_le (by have := World.block_lt_of_cell? _ _ hx360_0; first | rwa [add_block] at this | exact this) GW357.out); replace hx360_0 := (HB.out.cell (World.block_lt_of_cell? w _ hx360_0)).trans hx360_0; replace hx360_1 := (HB.out.cell (World.block_lt_of_cell? w _ hx360_1)).trans hx360_1; replace hx360_0 := (cell_far (p := ⟨gb357, 0, none⟩) (by first | (rw [add_block]; exact hn360_0) | (show (Addr.add _ _).block ≠ _; rw [add_block]; exact hn360_0) | exact hn360_0) (.string ((rd_T83 l0_4 x30_2).f0))).trans hx360_0; replace hx360_1 := (cell_far (p := ⟨gb357, 0, none⟩) (by first | (rw [add_block]; exact hn360_0) | (show (Addr.add _ _).block ≠ _; rw [add_block]; exact hn360_0) | exact hn360_0) (.string ((rd_T83 l0_4 x30_2).f0))).trans hx360_1; replace hx360_0 := (cell_far (p := ⟨gb357, 1, none⟩) (by first | (rw [add_block]; exact hn360_1) | (show (Addr.add _ _).block ≠ _; rw [add_block]; exact hn360_1) | exact hn360_1) (.int .i64 ((rd_T83 l0_4 x30_2).f1))).trans hx360_0; replace hx360_1 := (cell_far (p := ⟨gb357, 1, none⟩) (by first | (rw [add_block]; exact hn360_1) | (show (Addr.add _ _).block ≠ _; rw [add_block]; exact hn360_1) | exact hn360_1) (.int .i64 ((rd_T83 l0_4 x30_2).f1))).trans hx360_1; (try have hy360_0 := fun (n_ : Nat) => (show ((((w32.drewN n_).setCell ⟨gb357, 0, none⟩ (.string ((rd_T83 l0_4 x30_2).f0))).setCell ⟨gb357, 1, none⟩ (.int .i64 ((rd_T83 l0_4 x30_2).f1)))).cell? _ = some _ from hx360_0)); (try have hy360_1 := fun (n_ : Nat) => (show ((((w32.drewN n_).setCell ⟨gb357, 0, none⟩ (.string ((rd_T83 l0_4 x30_2).f0))).setCell ⟨gb357, 1, none⟩ (.int .i64 ((rd_T83 l0_4 x30_2).f1)))).cell? _ = some _ from hx360_1)); clear hn360_0; clear hn360_1; replace p360 := eq_true p360; replace q360 := eq_true q360)))
               go_ret
               exact ⟨by first | rfl | (simp [errW_none, errW_some] <;> rfl) | (simp only [← hji24]; first | rfl | (simp [errW_none, errW_some] <;> rfl)) | (simp [*, errW_none, errW_some] <;> rfl), by repeat (first | (with_reducible first | exact HB.out | apply below_alloc | apply pw_below_drewN | apply below_drew1 | refine below_set ?_ GE353.out | refine below_set ?_ GE357.out) | exact HB.out)⟩
             ·rw [if_neg c26] at H
              exact absurd H (by simp)
            ·rw [if_neg c25] at H
             exact absurd H (by simp)
           ·rw [if_neg c23] at H
            have c23b0 : decide (0 < x30_2) = false := decide_eq_false c23
            clear c23
            have H' := Aside0.mk H
            clear H
            have p356 : 0 ≤ (x30_2 : Int) := oa
            have q356 : x30_2 < (l0_4.length : Int) := oa
            obtain ⟨ad356, e356, hx356_0, hx356_1⟩ := at_T83 HR0_4.out x30_2 p356 q356
            cases e356
            replace hx356_0 := (HB.out.cell (World.block_lt_of_cell? w _ hx356_0)).trans hx356_0
            replace hx356_1 := (HB.out.cell (World.block_lt_of_cell? w _ hx356_1)).trans hx356_1
            replace p356 := eq_true p356
            replace q356 := eq_true q356
            go_wp2_with (first | ((with_reducible refine gate_dst (N := 4) rfl ?_); (try (refine gate_guard (by rfl) ?_; dsimp only)); refine box_event ?hg (N := 4) ?hd (cs := #[.string (⟨#[]⟩ : ByteArray), .int .i64 0]) (t := 83) ?hr ?_; (case hd => rfl); (case hg => rfl); (case hr => first | (go_simp; done) | (go_simp; rfl)); intro gb357 hg w36 hbox hb; have n0_ := Aside0.mk (blk_below (g := gb353) (o := .cells #[.int .i64 a0_0, .int .i64 a0_1, .int .i64 a0_2, .slice A0_3 l0_3.length c0_3, .slice (some ad356) l0_4.length c0_4, .slice A0_5 l0_5.length c0_5] 45 (0, 0)) (by (with_reducible repeat (first | refine blk_drewN ?_ _ | refine blk_drew ?_ | refine blk_alloc ?_ _)); exact BK353.out) hb); have n1_ := Aside0.mk (below_step (by repeat (first | (with_reducible first | exact HB.out | apply below_alloc | apply pw_below_drewN | apply below_drew1 | refine below_set ?_ GE353.out) | exact HB.out)) hb); have n2_ := Aside0.mk (hbox); have n3_ := Aside0.mk ((by rw [hg]; exact (below_size (by repeat (first | (with_reducible first | exact HB.out | apply below_alloc | apply pw_below_drewN | apply below_drew1 | refine below_set ?_ GE353.out) | exact HB.out))) : w.heap.size ≤ gb357)); have n4_ := Aside0.mk ((by rw [hg]; exact (below_size (by repeat (first | (with_reducible first | exact HB.out | apply below_alloc | apply pw_below_drewN | apply below_drew1 | refine below_set ?_ GE353.out) | exact HB.out))) : w.heap.size ≤ gb357)); have n5_ := Aside0.mk ((by rw [hg]; exact Nat.ne_of_lt (blk_lt (g := gb353) (o := .cells #[.int .i64 a0_0, .int .i64 a0_1, .int .i64 a0_2, .slice A0_3 l0_3.length c0_3, .slice (some ad356) l0_4.length c0_4, .slice A0_5 l0_5.length c0_5] 45 (0, 0)) (by (with_reducible repeat (first | refine blk_drewN ?_ _ | refine blk_drew ?_ | refine blk_alloc ?_ _)); exact BK353.out)) : gb353 ≠ gb357)); have n6_ := Aside0.mk ((by rw [hg]; exact Nat.ne_of_gt (blk_lt (g := gb353) (o := .cells #[.int .i64 a0_0, .int .i64 a0_1, .int .i64 a0_2, .slice A0_3 l0_3.length c0_3, .slice (some ad356) l0_4.length c0_4, .slice A0_5 l0_5.length c0_5] 45 (0, 0)) (by (with_reducible repeat (first | refine blk_drewN ?_ _ | refine blk_drew ?_ | refine blk_alloc ?_ _)); exact BK353.out)) : gb357 ≠ gb353)); clear BK353; clear HB; have BK353 := n0_; have HB := n1_; have BK357 := n2_; have GW357 := n3_; have GE357 := n4_; have NB353_357 := n5_; have NB357_353 := n6_; clear n0_ n1_ n2_ n3_ n4_ n5_ n6_; clear hb hbox hg; have hnb37 := NB357_353.out; have hnc37 := NB353_357.out; have hcz38_0 : w36.cell? ⟨gb357, 0, none⟩ = some (.string (⟨#[]⟩ : ByteArray)) := (blk_cell BK357.out 0).trans rfl; have hcz38_1 : w36.cell? ⟨gb357, 1, none⟩ = some (.int .i64 0) := (blk_cell BK357.out 1).trans rfl; have hfz38_0 := blk_frozen BK357.out 0; have hfz38_1 := blk_frozen BK357.out 1) | (go_at_call 92; (with_reducible refine (impl_NameOk.calls k2 ((rd_T83 l0_4 x30_2).f0) true _ A19.out).mono ?_); rintro e w' ⟨rfl, ⟨nd, rfl⟩⟩; (try first | exact ⟨rfl, _, World.drewN_drewN _ _ _⟩ | exact ⟨rfl, _, Eq.trans (World.drewN_drewN _ _ _) (congrArg (World.drewN _) (Nat.add_assoc _ _ _))⟩)) | (go_at_call 90; (with_reducible refine (impl_from.calls ((rd_T83 l0_4 x30_2).f1) 2 1000 true _ A21.out).mono ?_); rintro e w' ⟨rfl, ⟨nd, rfl⟩⟩; (try first | exact ⟨rfl, _, World.drewN_drewN _ _ _⟩ | exact ⟨rfl, _, Eq.trans (World.drewN_drewN _ _ _) (congrArg (World.drewN _) (Nat.add_assoc _ _ _))⟩)))
            repeat (go_quiet (first | ((with_reducible refine gate_dst (N := 4) rfl ?_); (try (refine gate_guard (by rfl) ?_; dsimp only)); refine box_event ?hg (N := 4) ?hd (cs := #[.string (⟨#[]⟩ : ByteArray), .int .i64 0]) (t := 83) ?hr ?_; (case hd => rfl); (case hg => rfl); (case hr => first | (go_simp; done) | (go_simp; rfl)); intro gb357 hg w36 hbox hb; have n0_ := Aside0.mk (blk_below (g := gb353) (o := .cells #[.int .i64 a0_0, .int .i64 a0_1, .int .i64 a0_2, .slice A0_3 l0_3.length c0_3, .slice (some ad356) l0_4.length c0_4, .slice A0_5 l0_5.length c0_5] 45 (0, 0)) (by (with_reducible repeat (first | refine blk_drewN ?_ _ | refine blk_drew ?_ | refine blk_alloc ?_ _)); exact BK353.out) hb); have n1_ := Aside0.mk (below_step (by repeat (first | (with_reducible first | exact HB.out | apply below_alloc | apply pw_below_drewN | apply below_drew1 | refine below_set ?_ GE353.out) | exact HB.out)) hb); have n2_ := Aside0.mk (hbox); have n3_ := Aside0.mk ((by rw [hg]; exact (below_size (by repeat (first | (with_reducible first | exact HB.out | apply below_alloc | apply pw_below_drewN | apply below_drew1 | refine below_set ?_ GE353.out) | exact HB.out))) : w.heap.size ≤ gb357)); have n4_ := Aside0.mk ((by rw [hg]; exact (below_size (by repeat (first | (with_reducible first | exact HB.out | apply below_alloc | apply pw_below_drewN | apply below_drew1 | refine below_set ?_ GE353.out) | exact HB.out))) : w.heap.size ≤ gb357)); have n5_ := Aside0.mk ((by rw [hg]; exact Nat.ne_of_lt (blk_lt (g := gb353) (o := .cells #[.int .i64 a0_0, .int .i64 a0_1, .int .i64 a0_2, .slice A0_3 l0_3.length c0_3, .slice (some ad356) l0_4.length c0_4, .slice A0_5 l0_5.length c0_5] 45 (0, 0)) (by (with_reducible repeat (first | refine blk_drewN ?_ _ | refine blk_drew ?_ | refine blk_alloc ?_ _)); exact BK353.out)) : gb353 ≠ gb357)); have n6_ := Aside0.mk ((by rw [hg]; exact Nat.ne_of_gt (blk_lt (g := gb353) (o := .cells #[.int .i64 a0_0, .int .i64 a0_1, .int .i64 a0_2, .slice A0_3 l0_3.length c0_3, .slice (some ad356) l0_4.length c0_4, .slice A0_5 l0_5.length c0_5] 45 (0, 0)) (by (with_reducible repeat (first | refine blk_drewN ?_ _ | refine blk_drew ?_ | refine blk_alloc ?_ _)); exact BK353.out)) : gb357 ≠ gb353)); clear BK353; clear HB; have BK353 := n0_; have HB := n1_; have BK357 := n2_; have GW357 := n3_; have GE357 := n4_; have NB353_357 := n5_; have NB357_353 := n6_; clear n0_ n1_ n2_ n3_ n4_ n5_ n6_; clear hb hbox hg; have hnb37 := NB357_353.out; have hnc37 := NB353_357.out; have hcz38_0 : w36.cell? ⟨gb357, 0, none⟩ = some (.string (⟨#[]⟩ : ByteArray)) := (blk_cell BK357.out 0).trans rfl; have hcz38_1 : w36.cell? ⟨gb357, 1, none⟩ = some (.int .i64 0) := (blk_cell BK357.out 1).trans rfl; have hfz38_0 := blk_frozen BK357.out 0; have hfz38_1 := blk_frozen BK357.out 1) | (go_at_call 92; (with_reducible refine (impl_NameOk.calls k2 ((rd_T83 l0_4 x30_2).f0) true _ A19.out).mono ?_); rintro e w' ⟨rfl, ⟨nd, rfl⟩⟩; (try first | exact ⟨rfl, _, World.drewN_drewN _ _ _⟩ | exact ⟨rfl, _, Eq.trans (World.drewN_drewN _ _ _) (congrArg (World.drewN _) (Nat.add_assoc _ _ _))⟩)) | (go_at_call 90; (with_reducible refine (impl_from.calls ((rd_T83 l0_4 x30_2).f1) 2 1000 true _ A21.out).mono ?_); rintro e w' ⟨rfl, ⟨nd, rfl⟩⟩; (try first | exact ⟨rfl, _, World.drewN_drewN _ _ _⟩ | exact ⟨rfl, _, Eq.trans (World.drewN_drewN _ _ _) (congrArg (World.drewN _) (Nat.add_assoc _ _ _))⟩))); try go_wp2_with (first | ((with_reducible refine gate_dst (N := 4) rfl ?_); (try (refine gate_guard (by rfl) ?_; dsimp only)); refine box_event ?hg (N := 4) ?hd (cs := #[.string (⟨#[]⟩ : ByteArray), .int .i64 0]) (t := 83) ?hr ?_; (case hd => rfl); (case hg => rfl); (case hr => first | (go_simp; done) | (go_simp; rfl)); intro gb357 hg w36 hbox hb; have n0_ := Aside0.mk (blk_below (g := gb353) (o := .cells #[.int .i64 a0_0, .int .i64 a0_1, .int .i64 a0_2, .slice A0_3 l0_3.length c0_3, .slice (some ad356) l0_4.length c0_4, .slice A0_5 l0_5.length c0_5] 45 (0, 0)) (by (with_reducible repeat (first | refine blk_drewN ?_ _ | refine blk_drew ?_ | refine blk_alloc ?_ _)); exact BK353.out) hb); have n1_ := Aside0.mk (below_step (by repeat (first | (with_reducible first | exact HB.out | apply below_alloc | apply pw_below_drewN | apply below_drew1 | refine below_set ?_ GE353.out) | exact HB.out)) hb); have n2_ := Aside0.mk (hbox); have n3_ := Aside0.mk ((by rw [hg]; exact (below_size (by repeat (first | (with_reducible first | exact HB.out | apply below_alloc | apply pw_below_drewN | apply below_drew1 | refine below_set ?_ GE353.out) | exact HB.out))) : w.heap.size ≤ gb357)); have n4_ := Aside0.mk ((by rw [hg]; exact (below_size (by repeat (first | (with_reducible first | exact HB.out | apply below_alloc | apply pw_below_drewN | apply below_drew1 | refine below_set ?_ GE353.out) | exact HB.out))) : w.heap.size ≤ gb357)); have n5_ := Aside0.mk ((by rw [hg]; exact Nat.ne_of_lt (blk_lt (g := gb353) (o := .cells #[.int .i64 a0_0, .int .i64 a0_1, .int .i64 a0_2, .slice A0_3 l0_3.length c0_3, .slice (some ad356) l0_4.length c0_4, .slice A0_5 l0_5.length c0_5] 45 (0, 0)) (by (with_reducible repeat (first | refine blk_drewN ?_ _ | refine blk_drew ?_ | refine blk_alloc ?_ _)); exact BK353.out)) : gb353 ≠ gb357)); have n6_ := Aside0.mk ((by rw [hg]; exact Nat.ne_of_gt (blk_lt (g := gb353) (o := .cells #[.int .i64 a0_0, .int .i64 a0_1, .int .i64 a0_2, .slice A0_3 l0_3.length c0_3, .slice (some ad356) l0_4.length c0_4, .slice A0_5 l0_5.length c0_5] 45 (0, 0)) (by (with_reducible repeat (first | refine blk_drewN ?_ _ | refine blk_drew ?_ | refine blk_alloc ?_ _)); exact BK353.out)) : gb357 ≠ gb353)); clear BK353; clear HB; have BK353 := n0_; have HB := n1_; have BK357 := n2_; have GW357 := n3_; have GE357 := n4_; have NB353_357 := n5_; have NB357_353 := n6_; clear n0_ n1_ n2_ n3_ n4_ n5_ n6_; clear hb hbox hg; have hnb37 := NB357_353.out; have hnc37 := NB353_357.out; have hcz38_0 : w36.cell? ⟨gb357, 0, none⟩ = some (.string (⟨#[]⟩ : ByteArray)) := (blk_cell BK357.out 0).trans rfl; have hcz38_1 : w36.cell? ⟨gb357, 1, none⟩ = some (.int .i64 0) := (blk_cell BK357.out 1).trans rfl; have hfz38_0 := blk_frozen BK357.out 0; have hfz38_1 := blk_frozen BK357.out 1) | (go_at_call 92; (with_reducible refine (impl_NameOk.calls k2 ((rd_T83 l0_4 x30_2).f0) true _ A19.out).mono ?_); rintro e w' ⟨rfl, ⟨nd, rfl⟩⟩; (try first | exact ⟨rfl, _, World.drewN_drewN _ _ _⟩ | exact ⟨rfl, _, Eq.trans (World.drewN_drewN _ _ _) (congrArg (World.drewN _) (Nat.add_assoc _ _ _))⟩)) | (go_at_call 90; (with_reducible refine (impl_from.calls ((rd_T83 l0_4 x30_2).f1) 2 1000 true _ A21.out).mono ?_); rintro e w' ⟨rfl, ⟨nd, rfl⟩⟩; (try first | exact ⟨rfl, _, World.drewN_drewN _ _ _⟩ | exact ⟨rfl, _, Eq.trans (World.drewN_drewN _ _ _) (congrArg (World.drewN _) (Nat.add_assoc _ _ _))⟩))))
            go_roundg k2
            case measure => have := HJ1.out; have := HK2.out; omega
            case rel => exact ⟨(wrap64 (x30_2 + 1)), oS, H', ⟨by have := HJ1.out; have := HK2.out; omega⟩, ⟨by (with_reducible repeat (first | refine blk_drewN ?_ _ | refine blk_drew ?_ | refine blk_alloc ?_ _)); refine blk_far ?_ NB353_357.out _; (with_reducible repeat (first | refine blk_drewN ?_ _ | refine blk_drew ?_ | refine blk_alloc ?_ _)); refine blk_far ?_ NB353_357.out _; (with_reducible repeat (first | refine blk_drewN ?_ _ | refine blk_drew ?_ | refine blk_alloc ?_ _)); exact BK353.out⟩, ⟨by repeat (first | (with_reducible first | exact HB.out | apply below_alloc | apply pw_below_drewN | apply below_drew1 | refine below_set ?_ GE353.out | refine below_set ?_ GE357.out) | exact HB.out)⟩⟩
          ·replace c22 := Bool.eq_false_iff.mpr c22
           subst c22
           have H1 : (some false) = some r := by rw [if_neg (show ¬ (false = true) by decide)] at H; exact H
           clear H
           have H := H1
           clear H1
           obtain rfl := Option.some.inj H
           have p356 : 0 ≤ (x30_2 : Int) := oa
           have q356 : x30_2 < (l0_4.length : Int) := oa
           obtain ⟨ad356, e356, hx356_0, hx356_1⟩ := at_T83 HR0_4.out x30_2 p356 q356
           cases e356
           replace hx356_0 := (HB.out.cell (World.block_lt_of_cell? w _ hx356_0)).trans hx356_0
           replace hx356_1 := (HB.out.cell (World.block_lt_of_cell? w _ hx356_1)).trans hx356_1
           replace p356 := eq_true p356
           replace q356 := eq_true q356
           go_wp2_with (first | ((with_reducible refine gate_dst (N := 4) rfl ?_); (try (refine gate_guard (by rfl) ?_; dsimp only)); refine box_event ?hg (N := 4) ?hd (cs := #[.string (⟨#[]⟩ : ByteArray), .int .i64 0]) (t := 83) ?hr ?_; (case hd => rfl); (case hg => rfl); (case hr => first | (go_simp; done) | (go_simp; rfl)); intro gb357 hg w39 hbox hb; have n0_ := Aside0.mk (blk_below (g := gb353) (o := .cells #[.int .i64 a0_0, .int .i64 a0_1, .int .i64 a0_2, .slice A0_3 l0_3.length c0_3, .slice (some ad356) l0_4.length c0_4, .slice A0_5 l0_5.length c0_5] 45 (0, 0)) (by (with_reducible repeat (first | refine blk_drewN ?_ _ | refine blk_drew ?_ | refine blk_alloc ?_ _)); exact BK353.out) hb); have n1_ := Aside0.mk (below_step (by repeat (first | (with_reducible first | exact HB.out | apply below_alloc | apply pw_below_drewN | apply below_drew1 | refine below_set ?_ GE353.out) | exact HB.out)) hb); have n2_ := Aside0.mk (hbox); have n3_ := Aside0.mk ((by rw [hg]; exact (below_size (by repeat (first | (with_reducible first | exact HB.out | apply below_alloc | apply pw_below_drewN | apply below_drew1 | refine below_set ?_ GE353.out) | exact HB.out))) : w.heap.size ≤ gb357)); have n4_ := Aside0.mk ((by rw [hg]; exact (below_size (by repeat (first | (with_reducible first | exact HB.out | apply below_alloc | apply pw_below_drewN | apply below_drew1 | refine below_set ?_ GE353.out) | exact HB.out))) : w.heap.size ≤ gb357)); have n5_ := Aside0.mk ((by rw [hg]; exact Nat.ne_of_lt (blk_lt (g := gb353) (o := .cells #[.int .i64 a0_0, .int .i64 a0_1, .int .i64 a0_2, .slice A0_3 l0_3.length c0_3, .slice (some ad356) l0_4.length c0_4, .slice A0_5 l0_5.length c0_5] 45 (0, 0)) (by (with_reducible repeat (first | refine blk_drewN ?_ _ | refine blk_drew ?_ | refine blk_alloc ?_ _)); exact BK353.out)) : gb353 ≠ gb357)); have n6_ := Aside0.mk ((by rw [hg]; exact Nat.ne_of_gt (blk_lt (g := gb353) (o := .cells #[.int .i64 a0_0, .int .i64 a0_1, .int .i64 a0_2, .slice A0_3 l0_3.length c0_3, .slice (some ad356) l0_4.length c0_4, .slice A0_5 l0_5.length c0_5] 45 (0, 0)) (by (with_reducible repeat (first | refine blk_drewN ?_ _ | refine blk_drew ?_ | refine blk_alloc ?_ _)); exact BK353.out)) : gb357 ≠ gb353)); clear BK353; clear HB; have BK353 := n0_; have HB := n1_; have BK357 := n2_; have GW357 := n3_; have GE357 := n4_; have NB353_357 := n5_; have NB357_353 := n6_; clear n0_ n1_ n2_ n3_ n4_ n5_ n6_; clear hb hbox hg; have hnb40 := NB357_353.out; have hnc40 := NB353_357.out; have hcz41_0 : w39.cell? ⟨gb357, 0, none⟩ = some (.string (⟨#[]⟩ : ByteArray)) := (blk_cell BK357.out 0).trans rfl; have hcz41_1 : w39.cell? ⟨gb357, 1, none⟩ = some (.int .i64 0) := (blk_cell BK357.out 1).trans rfl; have hfz41_0 := blk_frozen BK357.out 0; have hfz41_1 := blk_frozen BK357.out 1) | (go_at_call 92; (with_reducible refine (impl_NameOk.calls k2 ((rd_T83 l0_4 x30_2).f0) true _ A19.out).mono ?_); rintro e w' ⟨rfl, ⟨nd, rfl⟩⟩; (try first | exact ⟨rfl, _, World.drewN_drewN _ _ _⟩ | exact ⟨rfl, _, Eq.trans (World.drewN_drewN _ _ _) (congrArg (World.drewN _) (Nat.add_assoc _ _ _))⟩)) | (go_at_call 90; (with_reducible refine (impl_from.calls ((rd_T83 l0_4 x30_2).f1) 2 1000 false _ A21.out).mono ?_); rintro e w' ⟨rfl, ⟨nd, rfl⟩⟩; (try first | exact ⟨rfl, _, World.drewN_drewN _ _ _⟩ | exact ⟨rfl, _, Eq.trans (World.drewN_drewN _ _ _) (congrArg (World.drewN _) (Nat.add_assoc _ _ _))⟩)))
           repeat (go_quiet (first | ((with_reducible refine gate_dst (N := 4) rfl ?_); (try (refine gate_guard (by rfl) ?_; dsimp only)); refine box_event ?hg (N := 4) ?hd (cs := #[.string (⟨#[]⟩ : ByteArray), .int .i64 0]) (t := 83) ?hr ?_; (case hd => rfl); (case hg => rfl); (case hr => first | (go_simp; done) | (go_simp; rfl)); intro gb357 hg w39 hbox hb; have n0_ := Aside0.mk (blk_below (g := gb353) (o := .cells #[.int .i64 a0_0, .int .i64 a0_1, .int .i64 a0_2, .slice A0_3 l0_3.length c0_3, .slice (some ad356) l0_4.length c0_4, .slice A0_5 l0_5.length c0_5] 45 (0, 0)) (by (with_reducible repeat (first | refine blk_drewN ?_ _ | refine blk_drew ?_ | refine blk_alloc ?_ _)); exact BK353.out) hb); have n1_ := Aside0.mk (below_step (by repeat (first | (with_reducible first | exact HB.out | apply below_alloc | apply pw_below_drewN | apply below_drew1 | refine below_set ?_ GE353.out) | exact HB.out)) hb); have n2_ := Aside0.mk (hbox); have n3_ := Aside0.mk ((by rw [hg]; exact (below_size (by repeat (first | (with_reducible first | exact HB.out | apply below_alloc | apply pw_below_drewN | apply below_drew1 | refine below_set ?_ GE353.out) | exact HB.out))) : w.heap.size ≤ gb357)); have n4_ := Aside0.mk ((by rw [hg]; exact (below_size (by repeat (first | (with_reducible first | exact HB.out | apply below_alloc | apply pw_below_drewN | apply below_drew1 | refine below_set ?_ GE353.out) | exact HB.out))) : w.heap.size ≤ gb357)); have n5_ := Aside0.mk ((by rw [hg]; exact Nat.ne_of_lt (blk_lt (g := gb353) (o := .cells #[.int .i64 a0_0, .int .i64 a0_1, .int .i64 a0_2, .slice A0_3 l0_3.length c0_3, .slice (some ad356) l0_4.length c0_4, .slice A0_5 l0_5.length c0_5] 45 (0, 0)) (by (with_reducible repeat (first | refine blk_drewN ?_ _ | refine blk_drew ?_ | refine blk_alloc ?_ _)); exact BK353.out)) : gb353 ≠ gb357)); have n6_ := Aside0.mk ((by rw [hg]; exact Nat.ne_of_gt (blk_lt (g := gb353) (o := .cells #[.int .i64 a0_0, .int .i64 a0_1, .int .i64 a0_2, .slice A0_3 l0_3.length c0_3, .slice (some ad356) l0_4.length c0_4, .slice A0_5 l0_5.length c0_5] 45 (0, 0)) (by (with_reducible repeat (first | refine blk_drewN ?_ _ | refine blk_drew ?_ | refine blk_alloc ?_ _)); exact BK353.out)) : gb357 ≠ gb353)); clear BK353; clear HB; have BK353 := n0_; have HB := n1_; have BK357 := n2_; have GW357 := n3_; have GE357 := n4_; have NB353_357 := n5_; have NB357_353 := n6_; clear n0_ n1_ n2_ n3_ n4_ n5_ n6_; clear hb hbox hg; have hnb40 := NB357_353.out; have hnc40 := NB353_357.out; have hcz41_0 : w39.cell? ⟨gb357, 0, none⟩ = some (.string (⟨#[]⟩ : ByteArray)) := (blk_cell BK357.out 0).trans rfl; have hcz41_1 : w39.cell? ⟨gb357, 1, none⟩ = some (.int .i64 0) := (blk_cell BK357.out 1).trans rfl; have hfz41_0 := blk_frozen BK357.out 0; have hfz41_1 := blk_frozen BK357.out 1) | (go_at_call 92; (with_reducible refine (impl_NameOk.calls k2 ((rd_T83 l0_4 x30_2).f0) true _ A19.out).mono ?_); rintro e w' ⟨rfl, ⟨nd, rfl⟩⟩; (try first | exact ⟨rfl, _, World.drewN_drewN _ _ _⟩ | exact ⟨rfl, _, Eq.trans (World.drewN_drewN _ _ _) (congrArg (World.drewN _) (Nat.add_assoc _ _ _))⟩)) | (go_at_call 90; (with_reducible refine (impl_from.calls ((rd_T83 l0_4 x30_2).f1) 2 1000 false _ A21.out).mono ?_); rintro e w' ⟨rfl, ⟨nd, rfl⟩⟩; (try first | exact ⟨rfl, _, World.drewN_drewN _ _ _⟩ | exact ⟨rfl, _, Eq.trans (World.drewN_drewN _ _ _) (congrArg (World.drewN _) (Nat.add_assoc _ _ _))⟩))); try go_wp2_with (first | ((with_reducible refine gate_dst (N := 4) rfl ?_); (try (refine gate_guard (by rfl) ?_; dsimp only)); refine box_event ?hg (N := 4) ?hd (cs := #[.string (⟨#[]⟩ : ByteArray), .int .i64 0]) (t := 83) ?hr ?_; (case hd => rfl); (case hg => rfl); (case hr => first | (go_simp; done) | (go_simp; rfl)); intro gb357 hg w39 hbox hb; have n0_ := Aside0.mk (blk_below (g := gb353) (o := .cells #[.int .i64 a0_0, .int .i64 a0_1, .int .i64 a0_2, .slice A0_3 l0_3.length c0_3, .slice (some ad356) l0_4.length c0_4, .slice A0_5 l0_5.length c0_5] 45 (0, 0)) (by (with_reducible repeat (first | refine blk_drewN ?_ _ | refine blk_drew ?_ | refine blk_alloc ?_ _)); exact BK353.out) hb); have n1_ := Aside0.mk (below_step (by repeat (first | (with_reducible first | exact HB.out | apply below_alloc | apply pw_below_drewN | apply below_drew1 | refine below_set ?_ GE353.out) | exact HB.out)) hb); have n2_ := Aside0.mk (hbox); have n3_ := Aside0.mk ((by rw [hg]; exact (below_size (by repeat (first | (with_reducible first | exact HB.out | apply below_alloc | apply pw_below_drewN | apply below_drew1 | refine below_set ?_ GE353.out) | exact HB.out))) : w.heap.size ≤ gb357)); have n4_ := Aside0.mk ((by rw [hg]; exact (below_size (by repeat (first | (with_reducible first | exact HB.out | apply below_alloc | apply pw_below_drewN | apply below_drew1 | refine below_set ?_ GE353.out) | exact HB.out))) : w.heap.size ≤ gb357)); have n5_ := Aside0.mk ((by rw [hg]; exact Nat.ne_of_lt (blk_lt (g := gb353) (o := .cells #[.int .i64 a0_0, .int .i64 a0_1, .int .i64 a0_2, .slice A0_3 l0_3.length c0_3, .slice (some ad356) l0_4.length c0_4, .slice A0_5 l0_5.length c0_5] 45 (0, 0)) (by (with_reducible repeat (first | refine blk_drewN ?_ _ | refine blk_drew ?_ | refine blk_alloc ?_ _)); exact BK353.out)) : gb353 ≠ gb357)); have n6_ := Aside0.mk ((by rw [hg]; exact Nat.ne_of_gt (blk_lt (g := gb353) (o := .cells #[.int .i64 a0_0, .int .i64 a0_1, .int .i64 a0_2, .slice A0_3 l0_3.length c0_3, .slice (some ad356) l0_4.length c0_4, .slice A0_5 l0_5.length c0_5] 45 (0, 0)) (by (with_reducible repeat (first | refine blk_drewN ?_ _ | refine blk_drew ?_ | refine blk_alloc ?_ _)); exact BK353.out)) : gb357 ≠ gb353)); clear BK353; clear HB; have BK353 := n0_; have HB := n1_; have BK357 := n2_; have GW357 := n3_; have GE357 := n4_; have NB353_357 := n5_; have NB357_353 := n6_; clear n0_ n1_ n2_ n3_ n4_ n5_ n6_; clear hb hbox hg; have hnb40 := NB357_353.out; have hnc40 := NB353_357.out; have hcz41_0 : w39.cell? ⟨gb357, 0, none⟩ = some (.string (⟨#[]⟩ : ByteArray)) := (blk_cell BK357.out 0).trans rfl; have hcz41_1 : w39.cell? ⟨gb357, 1, none⟩ = some (.int .i64 0) := (blk_cell BK357.out 1).trans rfl; have hfz41_0 := blk_frozen BK357.out 0; have hfz41_1 := blk_frozen BK357.out 1) | (go_at_call 92; (with_reducible refine (impl_NameOk.calls k2 ((rd_T83 l0_4 x30_2).f0) true _ A19.out).mono ?_); rintro e w' ⟨rfl, ⟨nd, rfl⟩⟩; (try first | exact ⟨rfl, _, World.drewN_drewN _ _ _⟩ | exact ⟨rfl, _, Eq.trans (World.drewN_drewN _ _ _) (congrArg (World.drewN _) (Nat.add_assoc _ _ _))⟩)) | (go_at_call 90; (with_reducible refine (impl_from.calls ((rd_T83 l0_4 x30_2).f1) 2 1000 false _ A21.out).mono ?_); rintro e w' ⟨rfl, ⟨nd, rfl⟩⟩; (try first | exact ⟨rfl, _, World.drewN_drewN _ _ _⟩ | exact ⟨rfl, _, Eq.trans (World.drewN_drewN _ _ _) (congrArg (World.drewN _) (Nat.add_assoc _ _ _))⟩))))
           go_ret
           exact ⟨oE, by repeat (first | (with_reducible first | exact HB.out | apply below_alloc | apply pw_below_drewN | apply below_drew1 | refine below_set ?_ GE353.out | refine below_set ?_ GE357.out) | exact HB.out)⟩
         ·replace c20 := Bool.eq_false_iff.mpr c20
          subst c20
          have H1 : (some false) = some r := by rw [if_neg (show ¬ (false = true) by decide)] at H; exact H
          clear H
          have H := H1
          clear H1
          obtain rfl := Option.some.inj H
          have p356 : 0 ≤ (x30_2 : Int) := oa
          have q356 : x30_2 < (l0_4.length : Int) := oa
          obtain ⟨ad356, e356, hx356_0, hx356_1⟩ := at_T83 HR0_4.out x30_2 p356 q356
          cases e356
          replace hx356_0 := (HB.out.cell (World.block_lt_of_cell? w _ hx356_0)).trans hx356_0
          replace hx356_1 := (HB.out.cell (World.block_lt_of_cell? w _ hx356_1)).trans hx356_1
          replace p356 := eq_true p356
          replace q356 := eq_true q356
          go_wp2_with (first | ((with_reducible refine gate_dst (N := 4) rfl ?_); (try (refine gate_guard (by rfl) ?_; dsimp only)); refine box_event ?hg (N := 4) ?hd (cs := #[.string (⟨#[]⟩ : ByteArray), .int .i64 0]) (t := 83) ?hr ?_; (case hd => rfl); (case hg => rfl); (case hr => first | (go_simp; done) | (go_simp; rfl)); intro gb357 hg w42 hbox hb; have n0_ := Aside0.mk (blk_below (g := gb353) (o := .cells #[.int .i64 a0_0, .int .i64 a0_1, .int .i64 a0_2, .slice A0_3 l0_3.length c0_3, .slice (some ad356) l0_4.length c0_4, .slice A0_5 l0_5.length c0_5] 45 (0, 0)) (by (with_reducible repeat (first | refine blk_drewN ?_ _ | refine blk_drew ?_ | refine blk_alloc ?_ _)); exact BK353.out) hb); have n1_ := Aside0.mk (below_step (by repeat (first | (with_reducible first | exact HB.out | apply below_alloc | apply pw_below_drewN | apply below_drew1 | refine below_set ?_ GE353.out) | exact HB.out)) hb); have n2_ := Aside0.mk (hbox); have n3_ := Aside0.mk ((by rw [hg]; exact (below_size (by repeat (first | (with_reducible first | exact HB.out | apply below_alloc | apply pw_below_drewN | apply below_drew1 | refine below_set ?_ GE353.out) | exact HB.out))) : w.heap.size ≤ gb357)); have n4_ := Aside0.mk ((by rw [hg]; exact (below_size (by repeat (first | (with_reducible first | exact HB.out | apply below_alloc | apply pw_below_drewN | apply below_drew1 | refine below_set ?_ GE353.out) | exact HB.out))) : w.heap.size ≤ gb357)); have n5_ := Aside0.mk ((by rw [hg]; exact Nat.ne_of_lt (blk_lt (g := gb353) (o := .cells #[.int .i64 a0_0, .int .i64 a0_1, .int .i64 a0_2, .slice A0_3 l0_3.length c0_3, .slice (some ad356) l0_4.length c0_4, .slice A0_5 l0_5.length c0_5] 45 (0, 0)) (by (with_reducible repeat (first | refine blk_drewN ?_ _ | refine blk_drew ?_ | refine blk_alloc ?_ _)); exact BK353.out)) : gb353 ≠ gb357)); have n6_ := Aside0.mk ((by rw [hg]; exact Nat.ne_of_gt (blk_lt (g := gb353) (o := .cells #[.int .i64 a0_0, .int .i64 a0_1, .int .i64 a0_2, .slice A0_3 l0_3.length c0_3, .slice (some ad356) l0_4.length c0_4, .slice A0_5 l0_5.length c0_5] 45 (0, 0)) (by (with_reducible repeat (first | refine blk_drewN ?_ _ | refine blk_drew ?_ | refine blk_alloc ?_ _)); exact BK353.out)) : gb357 ≠ gb353)); clear BK353; clear HB; have BK353 := n0_; have HB := n1_; have BK357 := n2_; have GW357 := n3_; have GE357 := n4_; have NB353_357 := n5_; have NB357_353 := n6_; clear n0_ n1_ n2_ n3_ n4_ n5_ n6_; clear hb hbox hg; have hnb43 := NB357_353.out; have hnc43 := NB353_357.out; have hcz44_0 : w42.cell? ⟨gb357, 0, none⟩ = some (.string (⟨#[]⟩ : ByteArray)) := (blk_cell BK357.out 0).trans rfl; have hcz44_1 : w42.cell? ⟨gb357, 1, none⟩ = some (.int .i64 0) := (blk_cell BK357.out 1).trans rfl; have hfz44_0 := blk_frozen BK357.out 0; have hfz44_1 := blk_frozen BK357.out 1) | (go_at_call 92; (with_reducible refine (impl_NameOk.calls k2 ((rd_T83 l0_4 x30_2).f0) false _ A19.out).mono ?_); rintro e w' ⟨rfl, ⟨nd, rfl⟩⟩; (try first | exact ⟨rfl, _, World.drewN_drewN _ _ _⟩ | exact ⟨rfl, _, Eq.trans (World.drewN_drewN _ _ _) (congrArg (World.drewN _) (Nat.add_assoc _ _ _))⟩)))
          repeat (go_quiet (first | ((with_reducible refine gate_dst (N := 4) rfl ?_); (try (refine gate_guard (by rfl) ?_; dsimp only)); refine box_event ?hg (N := 4) ?hd (cs := #[.string (⟨#[]⟩ : ByteArray), .int .i64 0]) (t := 83) ?hr ?_; (case hd => rfl); (case hg => rfl); (case hr => first | (go_simp; done) | (go_simp; rfl)); intro gb357 hg w42 hbox hb; have n0_ := Aside0.mk (blk_below (g := gb353) (o := .cells #[.int .i64 a0_0, .int .i64 a0_1, .int .i64 a0_2, .slice A0_3 l0_3.length c0_3, .slice (some ad356) l0_4.length c0_4, .slice A0_5 l0_5.length c0_5] 45 (0, 0)) (by (with_reducible repeat (first | refine blk_drewN ?_ _ | refine blk_drew ?_ | refine blk_alloc ?_ _)); exact BK353.out) hb); have n1_ := Aside0.mk (below_step (by repeat (first | (with_reducible first | exact HB.out | apply below_alloc | apply pw_below_drewN | apply below_drew1 | refine below_set ?_ GE353.out) | exact HB.out)) hb); have n2_ := Aside0.mk (hbox); have n3_ := Aside0.mk ((by rw [hg]; exact (below_size (by repeat (first | (with_reducible first | exact HB.out | apply below_alloc | apply pw_below_drewN | apply below_drew1 | refine below_set ?_ GE353.out) | exact HB.out))) : w.heap.size ≤ gb357)); have n4_ := Aside0.mk ((by rw [hg]; exact (below_size (by repeat (first | (with_reducible first | exact HB.out | apply below_alloc | apply pw_below_drewN | apply below_drew1 | refine below_set ?_ GE353.out) | exact HB.out))) : w.heap.size ≤ gb357)); have n5_ := Aside0.mk ((by rw [hg]; exact Nat.ne_of_lt (blk_lt (g := gb353) (o := .cells #[.int .i64 a0_0, .int .i64 a0_1, .int .i64 a0_2, .slice A0_3 l0_3.length c0_3, .slice (some ad356) l0_4.length c0_4, .slice A0_5 l0_5.length c0_5] 45 (0, 0)) (by (with_reducible repeat (first | refine blk_drewN ?_ _ | refine blk_drew ?_ | refine blk_alloc ?_ _)); exact BK353.out)) : gb353 ≠ gb357)); have n6_ := Aside0.mk ((by rw [hg]; exact Nat.ne_of_gt (blk_lt (g := gb353) (o := .cells #[.int .i64 a0_0, .int .i64 a0_1, .int .i64 a0_2, .slice A0_3 l0_3.length c0_3, .slice (some ad356) l0_4.length c0_4, .slice A0_5 l0_5.length c0_5] 45 (0, 0)) (by (with_reducible repeat (first | refine blk_drewN ?_ _ | refine blk_drew ?_ | refine blk_alloc ?_ _)); exact BK353.out)) : gb357 ≠ gb353)); clear BK353; clear HB; have BK353 := n0_; have HB := n1_; have BK357 := n2_; have GW357 := n3_; have GE357 := n4_; have NB353_357 := n5_; have NB357_353 := n6_; clear n0_ n1_ n2_ n3_ n4_ n5_ n6_; clear hb hbox hg; have hnb43 := NB357_353.out; have hnc43 := NB353_357.out; have hcz44_0 : w42.cell? ⟨gb357, 0, none⟩ = some (.string (⟨#[]⟩ : ByteArray)) := (blk_cell BK357.out 0).trans rfl; have hcz44_1 : w42.cell? ⟨gb357, 1, none⟩ = some (.int .i64 0) := (blk_cell BK357.out 1).trans rfl; have hfz44_0 := blk_frozen BK357.out 0; have hfz44_1 := blk_frozen BK357.out 1) | (go_at_call 92; (with_reducible refine (impl_NameOk.calls k2 ((rd_T83 l0_4 x30_2).f0) false _ A19.out).mono ?_); rintro e w' ⟨rfl, ⟨nd, rfl⟩⟩; (try first | exact ⟨rfl, _, World.drewN_drewN _ _ _⟩ | exact ⟨rfl, _, Eq.trans (World.drewN_drewN _ _ _) (congrArg (World.drewN _) (Nat.add_assoc _ _ _))⟩))); try go_wp2_with (first | ((with_reducible refine gate_dst (N := 4) rfl ?_); (try (refine gate_guard (by rfl) ?_; dsimp only)); refine box_event ?hg (N := 4) ?hd (cs := #[.string (⟨#[]⟩ : ByteArray), .int .i64 0]) (t := 83) ?hr ?_; (case hd => rfl); (case hg => rfl); (case hr => first | (go_simp; done) | (go_simp; rfl)); intro gb357 hg w42 hbox hb; have n0_ := Aside0.mk (blk_below (g := gb353) (o := .cells #[.int .i64 a0_0, .int .i64 a0_1, .int .i64 a0_2, .slice A0_3 l0_3.length c0_3, .slice (some ad356) l0_4.length c0_4, .slice A0_5 l0_5.length c0_5] 45 (0, 0)) (by (with_reducible repeat (first | refine blk_drewN ?_ _ | refine blk_drew ?_ | refine blk_alloc ?_ _)); exact BK353.out) hb); have n1_ := Aside0.mk (below_step (by repeat (first | (with_reducible first | exact HB.out | apply below_alloc | apply pw_below_drewN | apply below_drew1 | refine below_set ?_ GE353.out) | exact HB.out)) hb); have n2_ := Aside0.mk (hbox); have n3_ := Aside0.mk ((by rw [hg]; exact (below_size (by repeat (first | (with_reducible first | exact HB.out | apply below_alloc | apply pw_below_drewN | apply below_drew1 | refine below_set ?_ GE353.out) | exact HB.out))) : w.heap.size ≤ gb357)); have n4_ := Aside0.mk ((by rw [hg]; exact (below_size (by repeat (first | (with_reducible first | exact HB.out | apply below_alloc | apply pw_below_drewN | apply below_drew1 | refine below_set ?_ GE353.out) | exact HB.out))) : w.heap.size ≤ gb357)); have n5_ := Aside0.mk ((by rw [hg]; exact Nat.ne_of_lt (blk_lt (g := gb353) (o := .cells #[.int .i64 a0_0, .int .i64 a0_1, .int .i64 a0_2, .slice A0_3 l0_3.length c0_3, .slice (some ad356) l0_4.length c0_4, .slice A0_5 l0_5.length c0_5] 45 (0, 0)) (by (with_reducible repeat (first | refine blk_drewN ?_ _ | refine blk_drew ?_ | refine blk_alloc ?_ _)); exact BK353.out)) : gb353 ≠ gb357)); have n6_ := Aside0.mk ((by rw [hg]; exact Nat.ne_of_gt (blk_lt (g := gb353) (o := .cells #[.int .i64 a0_0, .int .i64 a0_1, .int .i64 a0_2, .slice A0_3 l0_3.length c0_3, .slice (some ad356) l0_4.length c0_4, .slice A0_5 l0_5.length c0_5] 45 (0, 0)) (by (with_reducible repeat (first | refine blk_drewN ?_ _ | refine blk_drew ?_ | refine blk_alloc ?_ _)); exact BK353.out)) : gb357 ≠ gb353)); clear BK353; clear HB; have BK353 := n0_; have HB := n1_; have BK357 := n2_; have GW357 := n3_; have GE357 := n4_; have NB353_357 := n5_; have NB357_353 := n6_; clear n0_ n1_ n2_ n3_ n4_ n5_ n6_; clear hb hbox hg; have hnb43 := NB357_353.out; have hnc43 := NB353_357.out; have hcz44_0 : w42.cell? ⟨gb357, 0, none⟩ = some (.string (⟨#[]⟩ : ByteArray)) := (blk_cell BK357.out 0).trans rfl; have hcz44_1 : w42.cell? ⟨gb357, 1, none⟩ = some (.int .i64 0) := (blk_cell BK357.out 1).trans rfl; have hfz44_0 := blk_frozen BK357.out 0; have hfz44_1 := blk_frozen BK357.out 1) | (go_at_call 92; (with_reducible refine (impl_NameOk.calls k2 ((rd_T83 l0_4 x30_2).f0) false _ A19.out).mono ?_); rintro e w' ⟨rfl, ⟨nd, rfl⟩⟩; (try first | exact ⟨rfl, _, World.drewN_drewN _ _ _⟩ | exact ⟨rfl, _, Eq.trans (World.drewN_drewN _ _ _) (congrArg (World.drewN _) (Nat.add_assoc _ _ _))⟩))))
          go_ret
          exact ⟨oE, by repeat (first | (with_reducible first | exact HB.out | apply below_alloc | apply pw_below_drewN | apply below_drew1 | refine below_set ?_ GE353.out | refine below_set ?_ GE357.out) | exact HB.out)⟩
        ·rw [if_neg c18] at H
         exact absurd H (by simp)
       ·rw [if_neg c17] at H
        exact absurd H (by simp)
      ·rw [if_neg c16] at H
       have c16b0 : decide (x30_2 < (l0_4.length : Int)) = false := decide_eq_false c16
       clear c16
       have HC45 := Aside0.mk H
       clear H
       go_upto_region 9 with (fail)
       repeat (go_quiet (fail); go_upto_region 9 with (fail))
       go_cut [74] (fun v74 wc => ∃ (kq : Nat) (x74_44 : Bool), v74 = .bool x74_44 ∧ Aside0 (impl_InodeOk.j2 kq x74_44 a0_0 a0_1 a0_2 l0_3 l0_4 l0_5 = some r) ∧ Aside0 (kq ≤ k2) ∧ Aside0 (wc.heap[gb353]? = some (.cells #[.int .i64 a0_0, .int .i64 a0_1, .int .i64 a0_2, (.slice A0_3 l0_3.length c0_3), (.slice A0_4 l0_4.length c0_4), (.slice A0_5 l0_5.length c0_5)] 45 (0, 0))) ∧ Aside0 (Below w.heap.size w wc))
       case first =>
        have H := HC45.out
        clear HC45
        replace H := Option.bind_eq_some_iff.mp H
        obtain ⟨t361, A460, H⟩ := H
        replace H : (if t361 = true then (impl_InodeOk.j2 k2 ((a0_2 == 0) != (a0_0 == 1)) a0_0 a0_1 a0_2 l0_3 l0_4 l0_5) else (impl_InodeOk.j2 k2 true a0_0 a0_1 a0_2 l0_3 l0_4 l0_5)) = some r := H
        have A46 := Aside0.mk A460
        clear A460
        by_cases c47 : t361 = true
        ·subst c47
         have H1 : (impl_InodeOk.j2 k2 ((a0_2 == 0) != (a0_0 == 1)) a0_0 a0_1 a0_2 l0_3 l0_4 l0_5) = some r := by rw [if_pos rfl] at H; exact H
         clear H
         have H := H1
         clear H1
         have H' := Aside0.mk H
         clear H
         have hcz48_0 : wr.cell? ⟨gb353, 0, none⟩ = some (.int .i64 a0_0) := (blk_cell BK353.out 0).trans rfl
         have hcz48_1 : wr.cell? ⟨gb353, 1, none⟩ = some (.int .i64 a0_1) := (blk_cell BK353.out 1).trans rfl
         have hcz48_2 : wr.cell? ⟨gb353, 2, none⟩ = some (.int .i64 a0_2) := (blk_cell BK353.out 2).trans rfl
         have hcz48_3 : wr.cell? ⟨gb353, 3, none⟩ = some (.slice A0_3 l0_3.length c0_3) := (blk_cell BK353.out 3).trans rfl
         have hcz48_4 : wr.cell? ⟨gb353, 4, none⟩ = some (.slice A0_4 l0_4.length c0_4) := (blk_cell BK353.out 4).trans rfl
         have hcz48_5 : wr.cell? ⟨gb353, 5, none⟩ = some (.slice A0_5 l0_5.length c0_5) := (blk_cell BK353.out 5).trans rfl
         have hfz48_0 := blk_frozen BK353.out 0
         have hfz48_1 := blk_frozen BK353.out 1
         have hfz48_2 := blk_frozen BK353.out 2
         have hfz48_3 := blk_frozen BK353.out 3
         have hfz48_4 := blk_frozen BK353.out 4
         have hfz48_5 := blk_frozen BK353.out 5
         go_wp2_with (first | (go_at_call 90; (with_reducible refine (impl_from.calls a0_2 0 1000 true _ A46.out).mono ?_); rintro e w' ⟨rfl, ⟨nd, rfl⟩⟩; (try first | exact ⟨rfl, _, World.drewN_drewN _ _ _⟩ | exact ⟨rfl, _, Eq.trans (World.drewN_drewN _ _ _) (congrArg (World.drewN _) (Nat.add_assoc _ _ _))⟩)))
         repeat (go_quiet (first | (go_at_call 90; (with_reducible refine (impl_from.calls a0_2 0 1000 true _ A46.out).mono ?_); rintro e w' ⟨rfl, ⟨nd, rfl⟩⟩; (try first | exact ⟨rfl, _, World.drewN_drewN _ _ _⟩ | exact ⟨rfl, _, Eq.trans (World.drewN_drewN _ _ _) (congrArg (World.drewN _) (Nat.add_assoc _ _ _))⟩))); try go_wp2_with (first | (go_at_call 90; (with_reducible refine (impl_from.calls a0_2 0 1000 true _ A46.out).mono ?_); rintro e w' ⟨rfl, ⟨nd, rfl⟩⟩; (try first | exact ⟨rfl, _, World.drewN_drewN _ _ _⟩ | exact ⟨rfl, _, Eq.trans (World.drewN_drewN _ _ _) (congrArg (World.drewN _) (Nat.add_assoc _ _ _))⟩))))
         go_meet
         case rel => exact ⟨_, (((a0_2 == 0) != (a0_0 == 1))), oS, H', ⟨by have := HJ1.out; have := HK2.out; first | omega | exact Nat.le_refl _⟩, ⟨by (with_reducible repeat (first | refine blk_drewN ?_ _ | refine blk_drew ?_ | refine blk_alloc ?_ _)); exact BK353.out⟩, ⟨by repeat (first | (with_reducible first | exact HB.out | apply below_alloc | apply pw_below_drewN | apply below_drew1 | refine below_set ?_ GE353.out) | exact HB.out)⟩⟩
        ·replace c47 := Bool.eq_false_iff.mpr c47
         subst c47
         have H1 : (impl_InodeOk.j2 k2 true a0_0 a0_1 a0_2 l0_3 l0_4 l0_5) = some r := by rw [if_neg (show ¬ (false = true) by decide)] at H; exact H
         clear H
         have H := H1
         clear H1
         have H' := Aside0.mk H
         clear H
         have hcz49_0 : wr.cell? ⟨gb353, 0, none⟩ = some (.int .i64 a0_0) := (blk_cell BK353.out 0).trans rfl
         have hcz49_1 : wr.cell? ⟨gb353, 1, none⟩ = some (.int .i64 a0_1) := (blk_cell BK353.out 1).trans rfl
         have hcz49_2 : wr.cell? ⟨gb353, 2, none⟩ = some (.int .i64 a0_2) := (blk_cell BK353.out 2).trans rfl
         have hcz49_3 : wr.cell? ⟨gb353, 3, none⟩ = some (.slice A0_3 l0_3.length c0_3) := (blk_cell BK353.out 3).trans rfl
         have hcz49_4 : wr.cell? ⟨gb353, 4, none⟩ = some (.slice A0_4 l0_4.length c0_4) := (blk_cell BK353.out 4).trans rfl
         have hcz49_5 : wr.cell? ⟨gb353, 5, none⟩ = some (.slice A0_5 l0_5.length c0_5) := (blk_cell BK353.out 5).trans rfl
         have hfz49_0 := blk_frozen BK353.out 0
         have hfz49_1 := blk_frozen BK353.out 1
         have hfz49_2 := blk_frozen BK353.out 2
         have hfz49_3 := blk_frozen BK353.out 3
         have hfz49_4 := blk_frozen BK353.out 4
         have hfz49_5 := blk_frozen BK353.out 5
         go_wp2_with (first | (go_at_call 90; (with_reducible refine (impl_from.calls a0_2 0 1000 false _ A46.out).mono ?_); rintro e w' ⟨rfl, ⟨nd, rfl⟩⟩; (try first | exact ⟨rfl, _, World.drewN_drewN _ _ _⟩ | exact ⟨rfl, _, Eq.trans (World.drewN_drewN _ _ _) (congrArg (World.drewN _) (Nat.add_assoc _ _ _))⟩)))
         repeat (go_quiet (first | (go_at_call 90; (with_reducible refine (impl_from.calls a0_2 0 1000 false _ A46.out).mono ?_); rintro e w' ⟨rfl, ⟨nd, rfl⟩⟩; (try first | exact ⟨rfl, _, World.drewN_drewN _ _ _⟩ | exact ⟨rfl, _, Eq.trans (World.drewN_drewN _ _ _) (congrArg (World.drewN _) (Nat.add_assoc _ _ _))⟩))); try go_wp2_with (first | (go_at_call 90; (with_reducible refine (impl_from.calls a0_2 0 1000 false _ A46.out).mono ?_); rintro e w' ⟨rfl, ⟨nd, rfl⟩⟩; (try first | exact ⟨rfl, _, World.drewN_drewN _ _ _⟩ | exact ⟨rfl, _, Eq.trans (World.drewN_drewN _ _ _) (congrArg (World.drewN _) (Nat.add_assoc _ _ _))⟩))))
         go_meet
         case rel => exact ⟨_, (true), oS, H', ⟨by have := HJ1.out; have := HK2.out; first | omega | exact Nat.le_refl _⟩, ⟨by (with_reducible repeat (first | refine blk_drewN ?_ _ | refine blk_drew ?_ | refine blk_alloc ?_ _)); exact BK353.out⟩, ⟨by repeat (first | (with_reducible first | exact HB.out | apply below_alloc | apply pw_below_drewN | apply below_drew1 | refine below_set ?_ GE353.out) | exact HB.out)⟩⟩
       case rest =>
        clear HC45
        try clear c1
        try clear c2
        try clear p2
        try clear c3
        try clear p3
        try clear q3
        try clear hx3
        try clear c4
        try clear c5
        try clear c6
        try clear c6b0
        try clear c6b1
        try clear c6b2
        try clear p6
        try clear c8
        try clear c8b0
        try clear c8b1
        try clear c14
        try clear c16
        try clear c16b0
        try clear c17
        try clear c17b0
        try clear c18
        try clear c18b0
        try clear c20
        try clear c22
        try clear c23
        try clear c23b0
        try clear c25
        try clear c25b0
        try clear c26
        try clear c26b0
        try clear c27
        try clear c27b0
        try clear c29
        try clear c33
        try clear p35
        try clear q35
        try clear hx35
        try clear p36
        try clear q36
        try clear hx36
        try clear c37
        try clear c38
        try clear c40
        try clear c43
        try clear c47
        try clear hcz11_0
        try clear hcz11_1
        try clear hcz11_2
        try clear hcz11_3
        try clear hcz11_4
        try clear hcz11_5
        try clear hcz13_0
        try clear hcz13_1
        try clear hcz13_2
        try clear hcz13_3
        try clear hcz13_4
        try clear hcz13_5
        try clear hcz15_0
        try clear hcz15_1
        try clear hcz15_2
        try clear hcz15_3
        try clear hcz15_4
        try clear hcz15_5
        try clear hcz30_0
        try clear hcz30_1
        try clear hcz31_0
        try clear hcz31_1
        try clear hcz31_2
        try clear hcz31_3
        try clear hcz31_4
        try clear hcz31_5
        try clear hcz34_0
        try clear hcz34_1
        try clear hcz35_0
        try clear hcz35_1
        try clear hcz35_2
        try clear hcz35_3
        try clear hcz35_4
        try clear hcz35_5
        try clear hcz38_0
        try clear hcz38_1
        try clear hcz41_0
        try clear hcz41_1
        try clear hcz44_0
        try clear hcz44_1
        try clear hcz48_0
        try clear hcz48_1
        try clear hcz48_2
        try clear hcz48_3
        try clear hcz48_4
        try clear hcz48_5
        try clear hcz49_0
        try clear hcz49_1
        try clear hcz49_2
        try clear hcz49_3
        try clear hcz49_4
        try clear hcz49_5
        try clear hcz7_0
        try clear hcz7_1
        try clear hcz7_2
        try clear hcz7_3
        try clear hcz7_4
        try clear hcz7_5
        try clear hcz9_0
        try clear hcz9_1
        try clear hcz9_2
        try clear hcz9_3
        try clear hcz9_4
        try clear hcz9_5
        try clear hfz11_0
        try clear hfz11_1
        try clear hfz11_2
        try clear hfz11_3
        try clear hfz11_4
        try clear hfz11_5
        try clear hfz13_0
        try clear hfz13_1
        try clear hfz13_2
        try clear hfz13_3
        try clear hfz13_4
        try clear hfz13_5
        try clear hfz15_0
        try clear hfz15_1
        try clear hfz15_2
        try clear hfz15_3
        try clear hfz15_4
        try clear hfz15_5
        try clear hfz30_0
        try clear hfz30_1
        try clear hfz31_0
        try clear hfz31_1
        try clear hfz31_2
        try clear hfz31_3
        try clear hfz31_4
        try clear hfz31_5
        try clear hfz34_0
        try clear hfz34_1
        try clear hfz35_0
        try clear hfz35_1
        try clear hfz35_2
        try clear hfz35_3
        try clear hfz35_4
        try clear hfz35_5
        try clear hfz38_0
        try clear hfz38_1
        try clear hfz41_0
        try clear hfz41_1
        try clear hfz44_0
        try clear hfz44_1
        try clear hfz48_0
        try clear hfz48_1
        try clear hfz48_2
        try clear hfz48_3
        try clear hfz48_4
        try clear hfz48_5
        try clear hfz49_0
        try clear hfz49_1
        try clear hfz49_2
        try clear hfz49_3
        try clear hfz49_4
        try clear hfz49_5
        try clear hfz7_0
        try clear hfz7_1
        try clear hfz7_2
        try clear hfz7_3
        try clear hfz7_4
        try clear hfz7_5
        try clear hfz9_0
        try clear hfz9_1
        try clear hfz9_2
        try clear hfz9_3
        try clear hfz9_4
        try clear hfz9_5
        try clear hx356_0
        try clear hx356_1
        try clear hx360_0
        try clear hx360_1
        try clear p2
        try clear p356
        try clear p360
        try clear q356
        try clear q360
        obtain ⟨kq, x74_44, rfl, HA, HJ44, BK353, HB⟩ := hcut
        cases kq with
        | zero => exact absurd HA.out (by simp [impl_InodeOk.j2])
        | succ kj44 =>
         have H := HA.out
         clear HA
         simp only [impl_InodeOk.j2] at H
         by_cases c50 : x74_44 = true
         ·subst c50
          have H1 : (some false) = some r := by rw [if_pos rfl] at H; exact H
          clear H
          have H := H1
          clear H1
          obtain rfl := Option.some.inj H
          go_wp2
          repeat (go_quiet (fail); try go_wp2)
          go_ret
          exact ⟨oE, by repeat (first | (with_reducible first | exact HB.out | apply below_alloc | apply pw_below_drewN | apply below_drew1 | refine below_set ?_ GE353.out) | exact HB.out)⟩
         ·replace c50 := Bool.eq_false_iff.mpr c50
          subst c50
          have H1 : (if a0_1 = 1 then (some ((l0_4.length : Int) == 0)) else (if a0_1 = 2 then (if (l0_3.length : Int) = 0 then (some (decide (a0_2 ≤ 1))) else (some false)) else (some false))) = some r := by rw [if_neg (show ¬ (false = true) by decide)] at H; exact H
          clear H
          have H := H1
          clear H1
          by_cases c51 : a0_1 = 1
          ·rw [if_pos c51] at H
           have c51b0 : (a0_1 == 1) = true := beq_iff_eq.mpr c51
           have c51b1 : (a0_1 != 1) = false := bne_eq_false_iff_eq.mpr c51
           clear c51
           obtain rfl := Option.some.inj H
           have hcz52_0 : wc.cell? ⟨gb353, 0, none⟩ = some (.int .i64 a0_0) := (blk_cell BK353.out 0).trans rfl
           have hcz52_1 : wc.cell? ⟨gb353, 1, none⟩ = some (.int .i64 a0_1) := (blk_cell BK353.out 1).trans rfl
           have hcz52_2 : wc.cell? ⟨gb353, 2, none⟩ = some (.int .i64 a0_2) := (blk_cell BK353.out 2).trans rfl
           have hcz52_3 : wc.cell? ⟨gb353, 3, none⟩ = some (.slice A0_3 l0_3.length c0_3) := (blk_cell BK353.out 3).trans rfl
           have hcz52_4 : wc.cell? ⟨gb353, 4, none⟩ = some (.slice A0_4 l0_4.length c0_4) := (blk_cell BK353.out 4).trans rfl
           have hcz52_5 : wc.cell? ⟨gb353, 5, none⟩ = some (.slice A0_5 l0_5.length c0_5) := (blk_cell BK353.out 5).trans rfl
           have hfz52_0 := blk_frozen BK353.out 0
           have hfz52_1 := blk_frozen BK353.out 1
           have hfz52_2 := blk_frozen BK353.out 2
           have hfz52_3 := blk_frozen BK353.out 3
           have hfz52_4 := blk_frozen BK353.out 4
           have hfz52_5 := blk_frozen BK353.out 5
           go_wp2
           repeat (go_quiet (fail); try go_wp2)
           go_ret
           exact ⟨oE, by repeat (first | (with_reducible first | exact HB.out | apply below_alloc | apply pw_below_drewN | apply below_drew1 | refine below_set ?_ GE353.out) | exact HB.out)⟩
          ·rw [if_neg c51] at H
           have c51b0 : (a0_1 == 1) = false := beq_eq_false_iff_ne.mpr c51
           have c51b1 : (a0_1 != 1) = true := bne_iff_ne.mpr c51
           by_cases c53 : a0_1 = 2
           ·rw [if_pos c53] at H
            have c53b0 : (a0_1 == 2) = true := beq_iff_eq.mpr c53
            have c53b1 : (a0_1 != 2) = false := bne_eq_false_iff_eq.mpr c53
            clear c53
            by_cases c54 : (l0_3.length : Int) = 0
            ·rw [if_pos c54] at H
             have c54b0 : ((l0_3.length : Int) == 0) = true := beq_iff_eq.mpr c54
             have c54b1 : ((l0_3.length : Int) != 0) = false := bne_eq_false_iff_eq.mpr c54
             clear c54
             obtain rfl := Option.some.inj H
             have hcz55_0 : wc.cell? ⟨gb353, 0, none⟩ = some (.int .i64 a0_0) := (blk_cell BK353.out 0).trans rfl
             have hcz55_1 : wc.cell? ⟨gb353, 1, none⟩ = some (.int .i64 a0_1) := (blk_cell BK353.out 1).trans rfl
             have hcz55_2 : wc.cell? ⟨gb353, 2, none⟩ = some (.int .i64 a0_2) := (blk_cell BK353.out 2).trans rfl
             have hcz55_3 : wc.cell? ⟨gb353, 3, none⟩ = some (.slice A0_3 l0_3.length c0_3) := (blk_cell BK353.out 3).trans rfl
             have hcz55_4 : wc.cell? ⟨gb353, 4, none⟩ = some (.slice A0_4 l0_4.length c0_4) := (blk_cell BK353.out 4).trans rfl
             have hcz55_5 : wc.cell? ⟨gb353, 5, none⟩ = some (.slice A0_5 l0_5.length c0_5) := (blk_cell BK353.out 5).trans rfl
             have hfz55_0 := blk_frozen BK353.out 0
             have hfz55_1 := blk_frozen BK353.out 1
             have hfz55_2 := blk_frozen BK353.out 2
             have hfz55_3 := blk_frozen BK353.out 3
             have hfz55_4 := blk_frozen BK353.out 4
             have hfz55_5 := blk_frozen BK353.out 5
             go_wp2
             repeat (go_quiet (fail); try go_wp2)
             go_ret
             exact ⟨oE, by repeat (first | (with_reducible first | exact HB.out | apply below_alloc | apply pw_below_drewN | apply below_drew1 | refine below_set ?_ GE353.out) | exact HB.out)⟩
            ·rw [if_neg c54] at H
             have c54b0 : ((l0_3.length : Int) == 0) = false := beq_eq_false_iff_ne.mpr c54
             have c54b1 : ((l0_3.length : Int) != 0) = true := bne_iff_ne.mpr c54
             have c54b2 : ¬ (l0_3 = []) := fun h_ => c54 (by rw [h_]; rfl)
             obtain rfl := Option.some.inj H
             have hcz56_0 : wc.cell? ⟨gb353, 0, none⟩ = some (.int .i64 a0_0) := (blk_cell BK353.out 0).trans rfl
             have hcz56_1 : wc.cell? ⟨gb353, 1, none⟩ = some (.int .i64 a0_1) := (blk_cell BK353.out 1).trans rfl
             have hcz56_2 : wc.cell? ⟨gb353, 2, none⟩ = some (.int .i64 a0_2) := (blk_cell BK353.out 2).trans rfl
             have hcz56_3 : wc.cell? ⟨gb353, 3, none⟩ = some (.slice A0_3 l0_3.length c0_3) := (blk_cell BK353.out 3).trans rfl
             have hcz56_4 : wc.cell? ⟨gb353, 4, none⟩ = some (.slice A0_4 l0_4.length c0_4) := (blk_cell BK353.out 4).trans rfl
             have hcz56_5 : wc.cell? ⟨gb353, 5, none⟩ = some (.slice A0_5 l0_5.length c0_5) := (blk_cell BK353.out 5).trans rfl
             have hfz56_0 := blk_frozen BK353.out 0
             have hfz56_1 := blk_frozen BK353.out 1
             have hfz56_2 := blk_frozen BK353.out 2
             have hfz56_3 := blk_frozen BK353.out 3
             have hfz56_4 := blk_frozen BK353.out 4
             have hfz56_5 := blk_frozen BK353.out 5
             go_wp2
             repeat (go_quiet (fail); try go_wp2)
             go_ret
             exact ⟨oE, by repeat (first | (with_reducible first | exact HB.out | apply below_alloc | apply pw_below_drewN | apply below_drew1 | refine below_set ?_ GE353.out) | exact HB.out)⟩
           ·rw [if_neg c53] at H
            have c53b0 : (a0_1 == 2) = false := beq_eq_false_iff_ne.mpr c53
            have c53b1 : (a0_1 != 2) = true := bne_iff_ne.mpr c53
            obtain rfl := Option.some.inj H
            have hcz57_0 : wc.cell? ⟨gb353, 0, none⟩ = some (.int .i64 a0_0) := (blk_cell BK353.out 0).trans rfl
            have hcz57_1 : wc.cell? ⟨gb353, 1, none⟩ = some (.int .i64 a0_1) := (blk_cell BK353.out 1).trans rfl
            have hcz57_2 : wc.cell? ⟨gb353, 2, none⟩ = some (.int .i64 a0_2) := (blk_cell BK353.out 2).trans rfl
            have hcz57_3 : wc.cell? ⟨gb353, 3, none⟩ = some (.slice A0_3 l0_3.length c0_3) := (blk_cell BK353.out 3).trans rfl
            have hcz57_4 : wc.cell? ⟨gb353, 4, none⟩ = some (.slice A0_4 l0_4.length c0_4) := (blk_cell BK353.out 4).trans rfl
            have hcz57_5 : wc.cell? ⟨gb353, 5, none⟩ = some (.slice A0_5 l0_5.length c0_5) := (blk_cell BK353.out 5).trans rfl
            have hfz57_0 := blk_frozen BK353.out 0
            have hfz57_1 := blk_frozen BK353.out 1
            have hfz57_2 := blk_frozen BK353.out 2
            have hfz57_3 := blk_frozen BK353.out 3
            have hfz57_4 := blk_frozen BK353.out 4
            have hfz57_5 := blk_frozen BK353.out 5
            go_wp2
            repeat (go_quiet (fail); try go_wp2)
            go_ret
            exact ⟨oE, by repeat (first | (with_reducible first | exact HB.out | apply below_alloc | apply pw_below_drewN | apply below_drew1 | refine below_set ?_ GE353.out) | exact HB.out)⟩

end Go.Proofs.Ytkknehgaebhbeaa.P
