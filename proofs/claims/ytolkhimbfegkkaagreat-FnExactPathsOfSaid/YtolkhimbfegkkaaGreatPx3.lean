-- By this session's own program (wip/myprint.py) out of the translation; Lean checks it.
import Derived.Test.YtolkhimbfegkkaaGreatPx0
namespace Go.Proofs.YtolkhimbfegkkaaGreat.P
open Go.RowKit Go.Proofs.YtolkhimbfegkkaaGreatW.PrintWords Go.Proofs.YtolkhimbfegkkaaGreatW.PrintLast Go.Proofs.YtolkhimbfegkkaaGreatW.PrintMore
attribute [local go_sem] max2_int min2_int max_two min_two max_three min_three max_four min_four   -- for this text's walks alone
set_option linter.unusedVariables false
set_option linter.unusedSimpArgs false

/-! ### impl_LinksOf: function 34 -/
mutual
def impl_LinksOf.l0 : Nat → Int → Int → List (S47) → Int → Int → Option (Int)
 | 0, _, _, _, _, _ => none
 | k + 1, x1, x5, x11, x12, x13 => if x13 < x12 then (if 0 ≤ x13 then (if x13 < (x11.length : Int) then (if ((rd_T47 x11 x13).f1) = 2 then (impl_LinksOf.l1 k x1 x5 x11 x12 x13 ((rd_T47 x11 x13).f4) (((rd_T47 x11 x13).f4).length : Int) 0) else (impl_LinksOf.l0 k x1 x5 x11 x12 (wrap64 (x13 + 1)))) else (none)) else (none)) else (some x5)
def impl_LinksOf.l1 : Nat → Int → Int → List (S47) → Int → Int → List (S63) → Int → Int → Option (Int)
 | 0, _, _, _, _, _, _, _, _ => none
 | k + 1, x1, x5, x11, x12, x13, x21, x22, x23 => if x23 < x22 then (if 0 ≤ x23 then (if x23 < (x21.length : Int) then (if ((rd_T63 x21 x23).f1) = x1 then (impl_LinksOf.l1 k x1 (wrap64 (x5 + 1)) x11 x12 x13 x21 x22 (wrap64 (x23 + 1))) else (impl_LinksOf.l1 k x1 x5 x11 x12 x13 x21 x22 (wrap64 (x23 + 1)))) else (none)) else (none)) else (impl_LinksOf.l0 k x1 x5 x11 x12 (wrap64 (x13 + 1)))
end
def impl_LinksOf.f (k : Nat) (l0_0 : List (S47)) (a0_1 : Int) (a1 : Int) : Option (Int) := impl_LinksOf.l0 k a1 0 l0_0 (l0_0.length : Int) 0
set_option maxHeartbeats 8000000 in
set_option maxRecDepth 100000 in
theorem impl_LinksOf.calls (k : Nat) (A0_0 : Option Addr) (c0_0 : Nat) (l0_0 : List (S47)) (a0_1 : Int) (a1 : Int) (r : Int) (w : World) (hr0_0 : Kd.C k47 w A0_0 l0_0.length l0_0) (hc0_0 : l0_0.length ≤ c0_0) (h : impl_LinksOf.f k l0_0 a0_1 a1 = some r) :
  Calls Tryz.prog 34 #[.agg #[.slice A0_0 l0_0.length c0_0, .int .i64 a0_1], .int .i64 a1] w fun e w' => e = .returned (.int .i64 r) ∧ Below w.heap.size w w' := by
 have hu30 := Tryz.underlying30
 have hu47 := Tryz.underlying47
 have hu63 := Tryz.underlying63
 have HR0_0 := Aside0.mk hr0_0
 have HC0_0 := Aside0.mk hc0_0
 clear hr0_0 hc0_0
 have HB := Aside0.mk (Below.refl w.heap.size w)
 unfold impl_LinksOf.f at h
 have H := h
 clear h
 have H' := Aside0.mk H
 clear H
 go_enter Tryz.func34, Tryz.ntmps34
 go_wp2_with (first | ((with_reducible refine gate_dst (N := 2) rfl ?_); refine bx_ 2 #[.slice A0_0 l0_0.length c0_0, .int .i64 a0_1] 30 ?_; intro gb438 hg w3 hbox hb; have BK438 := Aside0.mk (hbox); have GW438 := gs_ hg; replace HB := Aside0.mk (below_step oB hb); clear hb hbox hg; obtain ⟨⟨_, _⟩, _, _⟩ := z2 BK438))
 go_loopg [5, 13] k (fun kq v5 v13 w' => ∃ (x5_1 : Int) (x13_1 : Int), v5 = .int .i64 x5_1 ∧ v13 = .int .i64 x13_1 ∧ Aside0 (impl_LinksOf.l0 kq a1 x5_1 l0_0 (l0_0.length : Int) x13_1 = some r) ∧ Aside0 (kq ≤ k) ∧ Aside0 (w'.heap[gb438]? = some (.cells #[(.slice A0_0 l0_0.length c0_0), .int .i64 a0_1] 30 (0, 0))) ∧ Aside0 (Below w.heap.size w w'))
 case atStart => exact ⟨(0), (0), oS, oS, H', ⟨Nat.le_refl _⟩, ⟨oF BK438⟩, ⟨oB⟩⟩
 case round =>
  clear H'
  obtain ⟨x5_1, x13_1, rfl, rfl, HA, HK1, BK438, HB⟩ := hrel
  cases gk with
  | zero => exact absurd HA.out (by simp [impl_LinksOf.l0])
  | succ k1 =>
   have H := HA.out
   clear HA
   simp only [impl_LinksOf.l0] at H
   replace H := itD H
   rcases H with ⟨c5b0, H⟩ | ⟨c5b0, H⟩
   ·replace H := itD H
    rcases H with ⟨c6b0, H⟩ | ⟨c6b0, H⟩
    ·replace H := itD H
     rcases H with ⟨c7b0, H⟩ | ⟨c7b0, H⟩
     ·by_cases c8 : ((rd_T47 l0_0 x13_1).f1) = 2
      ·rw [if_pos c8] at H
       have c8b0 : (((rd_T47 l0_0 x13_1).f1) == 2) = true := beq_iff_eq.mpr c8
       have c8b1 : (((rd_T47 l0_0 x13_1).f1) != 2) = false := bne_eq_false_iff_eq.mpr c8
       clear c8
       have H' := Aside0.mk H
       clear H
       have p439 : (0 ≤ (x13_1 : Int)) = True := oT
       have q439 : (x13_1 < (l0_0.length : Int)) = True := oT
       obtain ⟨ad439, A439_3, c439_3, A439_4, c439_4, A439_5, c439_5, e439, hx439_0, hx439_1, hx439_2, hx439_3, hx439_4, hx439_5, hl439_3, hi439_3, hl439_4, hi439_4, hl439_5, hi439_5⟩ := at_T47 HR0_0.out x13_1 oa oa
       cases e439
       replace hx439_0 := cB HB hx439_0
       replace hx439_1 := cB HB hx439_1
       replace hx439_2 := cB HB hx439_2
       replace hx439_3 := cB HB hx439_3
       replace hx439_4 := cB HB hx439_4
       replace hx439_5 := cB HB hx439_5
       have HR439_3 := Aside0.mk hi439_3
       have HC439_3 := Aside0.mk hl439_3
       clear hi439_3 hl439_3
       have HR439_4 := Aside0.mk hi439_4
       have HC439_4 := Aside0.mk hl439_4
       clear hi439_4 hl439_4
       have HR439_5 := Aside0.mk hi439_5
       have HC439_5 := Aside0.mk hl439_5
       clear hi439_5 hl439_5
       go_wp2_with (first | ((with_reducible refine gate_dst (N := 7) rfl ?_); refine bx_ 7 #[.int .i64 0, .int .i64 0, .int .i64 0, .slice none 0 0, .slice none 0 0, .slice none 0 0] 47 ?_; intro gb440 hg w9 hbox hb; have BK440 := Aside0.mk (hbox); have GW440 := gs_ hg; have NB438_440 := nl_ hg BK438; have NB440_438 := nr_ hg BK438; replace BK438 := kb_ BK438 hb; replace HB := Aside0.mk (below_step oB hb); clear hb hbox hg; have hnb10 := NB440_438.out; have hnc10 := NB438_440.out; obtain ⟨⟨_, _, _, _, _, _⟩, _, _, _, _, _, _⟩ := z6 BK440))
       go_loopg [5, 23] k1 (fun kq v5 v23 w' => ∃ (x5_2 : Int) (x23_2 : Int), v5 = .int .i64 x5_2 ∧ v23 = .int .i64 x23_2 ∧ Aside0 (impl_LinksOf.l1 kq a1 x5_2 l0_0 (l0_0.length : Int) x13_1 ((rd_T47 l0_0 x13_1).f4) (((rd_T47 l0_0 x13_1).f4).length : Int) x23_2 = some r) ∧ Aside0 (kq ≤ k1) ∧ Aside0 (w'.heap[gb438]? = some (.cells #[(.slice (some ad439) l0_0.length c0_0), .int .i64 a0_1] 30 (0, 0))) ∧ Aside0 (w'.heap[gb440]? = some (.cells #[.int .i64 ((rd_T47 l0_0 x13_1).f0), .int .i64 ((rd_T47 l0_0 x13_1).f1), .int .i64 ((rd_T47 l0_0 x13_1).f2), (.slice A439_3 ((rd_T47 l0_0 x13_1).f3).length c439_3), (.slice A439_4 ((rd_T47 l0_0 x13_1).f4).length c439_4), (.slice A439_5 ((rd_T47 l0_0 x13_1).f5).length c439_5)] 47 (0, 0))) ∧ Aside0 (Below w.heap.size w w'))
       case atStart => exact ⟨(x5_1), (0), oS, oS, H', ⟨Nat.le_refl _⟩, ⟨oF BK438⟩, ⟨oP BK440⟩, ⟨oB⟩⟩
       case round =>
        clear H'
        try clear c5b0
        try clear c6b0
        try clear c7b0
        try clear c8
        obtain ⟨x5_2, x23_2, rfl, rfl, HA, HK2, BK438, BK440, HB⟩ := hrel
        cases gk with
        | zero => exact absurd HA.out (by simp [impl_LinksOf.l1])
        | succ k2 =>
         have H := HA.out
         clear HA
         simp only [impl_LinksOf.l1] at H
         replace H := itD H
         rcases H with ⟨c12b0, H⟩ | ⟨c12b0, H⟩
         ·replace H := itD H
          rcases H with ⟨c13b0, H⟩ | ⟨c13b0, H⟩
          ·replace H := itD H
           rcases H with ⟨c14b0, H⟩ | ⟨c14b0, H⟩
           ·by_cases c15 : ((rd_T63 ((rd_T47 l0_0 x13_1).f4) x23_2).f1) = a1
            ·rw [if_pos c15] at H
             have c15b0 : (((rd_T63 ((rd_T47 l0_0 x13_1).f4) x23_2).f1) == a1) = true := beq_iff_eq.mpr c15
             have c15b1 : (((rd_T63 ((rd_T47 l0_0 x13_1).f4) x23_2).f1) != a1) = false := bne_eq_false_iff_eq.mpr c15
             clear c15
             have H' := Aside0.mk H
             clear H
             have p441 : (0 ≤ (x23_2 : Int)) = True := oT
             have q441 : (x23_2 < (((rd_T47 l0_0 x13_1).f4).length : Int)) = True := oT
             obtain ⟨ad441, e441, hx441_0, hx441_1⟩ := at_T63 HR439_4.out x23_2 oa oa
             cases e441
             replace hx441_0 := cB HB hx441_0
             replace hx441_1 := cB HB hx441_1
             go_wp2_with (first | ((with_reducible refine gate_dst (N := 9) rfl ?_); refine bx_ 9 #[.string (⟨#[]⟩ : ByteArray), .int .i64 0] 63 ?_; intro gb442 hg w16 hbox hb; have BK442 := Aside0.mk (hbox); have GW442 := gs_ hg; have NB438_442 := nl_ hg BK438; have NB442_438 := nr_ hg BK438; have NB440_442 := nl_ hg BK440; have NB442_440 := nr_ hg BK440; replace BK438 := kb_ BK438 hb; replace BK440 := kb_ BK440 hb; replace HB := Aside0.mk (below_step oB hb); clear hb hbox hg; have hnb17 := NB442_438.out; have hnc17 := NB438_442.out; have hnb18 := NB442_440.out; have hnc18 := NB440_442.out; obtain ⟨⟨_, _⟩, _, _⟩ := z2 BK442))
             go_roundg k2
             case measure => have := HK1.out; have := HK2.out; omega
             case rel => exact ⟨(wrap64 (x5_2 + 1)), (wrap64 (x23_2 + 1)), oS, oS, H', ⟨by have := HK1.out; have := HK2.out; omega⟩, ⟨oF BK438⟩, ⟨oF BK440⟩, ⟨oB⟩⟩
            ·rw [if_neg c15] at H
             have c15b0 : (((rd_T63 ((rd_T47 l0_0 x13_1).f4) x23_2).f1) == a1) = false := beq_eq_false_iff_ne.mpr c15
             have c15b1 : (((rd_T63 ((rd_T47 l0_0 x13_1).f4) x23_2).f1) != a1) = true := bne_iff_ne.mpr c15
             have H' := Aside0.mk H
             clear H
             have p441 : (0 ≤ (x23_2 : Int)) = True := oT
             have q441 : (x23_2 < (((rd_T47 l0_0 x13_1).f4).length : Int)) = True := oT
             obtain ⟨ad441, e441, hx441_0, hx441_1⟩ := at_T63 HR439_4.out x23_2 oa oa
             cases e441
             replace hx441_0 := cB HB hx441_0
             replace hx441_1 := cB HB hx441_1
             go_wp2_with (first | ((with_reducible refine gate_dst (N := 9) rfl ?_); refine bx_ 9 #[.string (⟨#[]⟩ : ByteArray), .int .i64 0] 63 ?_; intro gb442 hg w20 hbox hb; have BK442 := Aside0.mk (hbox); have GW442 := gs_ hg; have NB438_442 := nl_ hg BK438; have NB442_438 := nr_ hg BK438; have NB440_442 := nl_ hg BK440; have NB442_440 := nr_ hg BK440; replace BK438 := kb_ BK438 hb; replace BK440 := kb_ BK440 hb; replace HB := Aside0.mk (below_step oB hb); clear hb hbox hg; have hnb21 := NB442_438.out; have hnc21 := NB438_442.out; have hnb22 := NB442_440.out; have hnc22 := NB440_442.out; obtain ⟨⟨_, _⟩, _, _⟩ := z2 BK442))
             go_roundg k2
             case measure => have := HK1.out; have := HK2.out; omega
             case rel => exact ⟨(x5_2), (wrap64 (x23_2 + 1)), oS, oS, H', ⟨by have := HK1.out; have := HK2.out; omega⟩, ⟨oF BK438⟩, ⟨oF BK440⟩, ⟨oB⟩⟩
           ·cases H
          ·cases H
         ·have H' := Aside0.mk H
          clear H
          go_wp2
          go_roundg k2
          case measure => have := HK1.out; have := HK2.out; omega
          case rel => exact ⟨(x5_2), (wrap64 (x13_1 + 1)), oS, oS, H', ⟨by have := HK1.out; have := HK2.out; omega⟩, ⟨oF BK438⟩, ⟨oB⟩⟩
      ·rw [if_neg c8] at H
       have c8b0 : (((rd_T47 l0_0 x13_1).f1) == 2) = false := beq_eq_false_iff_ne.mpr c8
       have c8b1 : (((rd_T47 l0_0 x13_1).f1) != 2) = true := bne_iff_ne.mpr c8
       have H' := Aside0.mk H
       clear H
       have p439 : (0 ≤ (x13_1 : Int)) = True := oT
       have q439 : (x13_1 < (l0_0.length : Int)) = True := oT
       obtain ⟨ad439, A439_3, c439_3, A439_4, c439_4, A439_5, c439_5, e439, hx439_0, hx439_1, hx439_2, hx439_3, hx439_4, hx439_5, hl439_3, hi439_3, hl439_4, hi439_4, hl439_5, hi439_5⟩ := at_T47 HR0_0.out x13_1 oa oa
       cases e439
       replace hx439_0 := cB HB hx439_0
       replace hx439_1 := cB HB hx439_1
       replace hx439_2 := cB HB hx439_2
       replace hx439_3 := cB HB hx439_3
       replace hx439_4 := cB HB hx439_4
       replace hx439_5 := cB HB hx439_5
       have HR439_3 := Aside0.mk hi439_3
       have HC439_3 := Aside0.mk hl439_3
       clear hi439_3 hl439_3
       have HR439_4 := Aside0.mk hi439_4
       have HC439_4 := Aside0.mk hl439_4
       clear hi439_4 hl439_4
       have HR439_5 := Aside0.mk hi439_5
       have HC439_5 := Aside0.mk hl439_5
       clear hi439_5 hl439_5
       go_wp2_with (first | ((with_reducible refine gate_dst (N := 7) rfl ?_); refine bx_ 7 #[.int .i64 0, .int .i64 0, .int .i64 0, .slice none 0 0, .slice none 0 0, .slice none 0 0] 47 ?_; intro gb440 hg w24 hbox hb; have BK440 := Aside0.mk (hbox); have GW440 := gs_ hg; have NB438_440 := nl_ hg BK438; have NB440_438 := nr_ hg BK438; replace BK438 := kb_ BK438 hb; replace HB := Aside0.mk (below_step oB hb); clear hb hbox hg; have hnb25 := NB440_438.out; have hnc25 := NB438_440.out; obtain ⟨⟨_, _, _, _, _, _⟩, _, _, _, _, _, _⟩ := z6 BK440))
       go_roundg k1
       case measure => have := HK1.out; omega
       case rel => exact ⟨(x5_1), (wrap64 (x13_1 + 1)), oS, oS, H', ⟨by have := HK1.out; omega⟩, ⟨oF BK438⟩, ⟨oB⟩⟩
     ·cases H
    ·cases H
   ·obtain rfl := Option.some.inj H
    go_wp2
    go_ret
    exact ⟨oE, oB⟩

/-! ### laws_eqStringS: function 8 -/
def laws_eqStringS.l0 : Nat → List ByteArray → List ByteArray → Int → Option (Bool)
 | 0, _, _, _ => none
 | k + 1, x0, x1, x5 => if x5 < (x0.length : Int) then (if 0 ≤ x5 then (if x5 < (x1.length : Int) then (if (rdOf ByteArray.empty x0 x5).toList = (rdOf ByteArray.empty x1 x5).toList then (laws_eqStringS.l0 k x0 x1 (wrap64 (x5 + 1))) else (some false)) else (none)) else (none)) else (some true)
def laws_eqStringS.f (k : Nat) (l0 : List ByteArray) (l1 : List ByteArray) : Option (Bool) := if (l0.length : Int) = (l1.length : Int) then (laws_eqStringS.l0 k l0 l1 0) else (some false)
set_option maxHeartbeats 8000000 in
set_option maxRecDepth 100000 in
theorem laws_eqStringS.calls (k : Nat) (A0 : Option Addr) (c0 : Nat) (l0 : List ByteArray) (A1 : Option Addr) (c1 : Nat) (l1 : List ByteArray) (r : Bool) (w : World) (hr0 : Kd.C Kd.string w A0 l0.length l0) (hc0 : l0.length ≤ c0) (hr1 : Kd.C Kd.string w A1 l1.length l1) (hc1 : l1.length ≤ c1) (h : laws_eqStringS.f k l0 l1 = some r) :
  Calls Tryz.prog 8 #[.slice A0 l0.length c0, .slice A1 l1.length c1] w fun e w' => e = .returned (.bool r) ∧ Drawn0 w w' := by
 have HR0 := Aside0.mk hr0
 have HC0 := Aside0.mk hc0
 clear hr0 hc0
 have HR1 := Aside0.mk hr1
 have HC1 := Aside0.mk hc1
 clear hr1 hc1
 unfold laws_eqStringS.f at h
 have H := h
 clear h
 by_cases c3 : (l0.length : Int) = (l1.length : Int)
 ·rw [if_pos c3] at H
  have c3b0 : ((l0.length : Int) == (l1.length : Int)) = true := beq_iff_eq.mpr c3
  have c3b1 : ((l0.length : Int) != (l1.length : Int)) = false := bne_eq_false_iff_eq.mpr c3
  have c3b2 : (l0.length == l1.length) = true := by first | simpa using c3 | (simp at c3 ⊢; omega)
  clear c3
  have H' := Aside0.mk H
  clear H
  go_enter Tryz.func8, Tryz.ntmps8
  go_wp2
  repeat (go_quiet (fail); try go_wp2)
  go_loopg [5] k (fun kq v5 w' => ∃ (x5_1 : Int), v5 = .int .i64 x5_1 ∧ Aside0 (laws_eqStringS.l0 kq l0 l1 x5_1 = some r) ∧ Aside0 (kq ≤ k) ∧ Drawn0 w w')
  case atStart => exact ⟨(0), oS, H', ⟨Nat.le_refl _⟩, oD⟩
  case round =>
   clear H'
   try clear c1
   try clear c3
   obtain ⟨x5_1, rfl, HA, HK1, ⟨m1, rfl⟩⟩ := hrel
   cases gk with
   | zero => exact absurd HA.out (by simp [laws_eqStringS.l0])
   | succ k1 =>
    have H := HA.out
    clear HA
    simp only [laws_eqStringS.l0] at H
    replace H := itD H
    rcases H with ⟨c4b0, H⟩ | ⟨c4b0, H⟩
    ·replace H := itD H
     rcases H with ⟨c5b0, H⟩ | ⟨c5b0, H⟩
     ·replace H := itD H
      rcases H with ⟨c6b0, H⟩ | ⟨c6b0, H⟩
      ·by_cases c7 : (rdOf ByteArray.empty l0 x5_1).toList = (rdOf ByteArray.empty l1 x5_1).toList
       ·rw [if_pos c7] at H
        have c7b0 : ((rdOf ByteArray.empty l0 x5_1).toList == (rdOf ByteArray.empty l1 x5_1).toList) = true := beq_iff_eq.mpr c7
        have c7b1 : ((rdOf ByteArray.empty l0 x5_1).toList != (rdOf ByteArray.empty l1 x5_1).toList) = false := bne_eq_false_iff_eq.mpr c7
        clear c7
        have H' := Aside0.mk H
        clear H
        have p503 : (0 ≤ (x5_1 : Int)) = True := oT
        have q503 : (x5_1 < (l0.length : Int)) = True := oT
        obtain ⟨ad503, e503, hx503_0⟩ := Kd.at_string HR0.out x5_1 oa oa
        cases e503
        have p504 : (0 ≤ (x5_1 : Int)) = True := oT
        have q504 : (x5_1 < (l1.length : Int)) = True := oT
        obtain ⟨ad504, e504, hx504_0⟩ := Kd.at_string HR1.out x5_1 oa oa
        cases e504
        go_wp2
        repeat (go_quiet (fail); try go_wp2)
        go_roundg k1
        case measure => have := HK1.out; omega
        case rel => exact ⟨(wrap64 (x5_1 + 1)), oS, H', ⟨by have := HK1.out; omega⟩, oD⟩
       ·rw [if_neg c7] at H
        have c7b0 : ((rdOf ByteArray.empty l0 x5_1).toList == (rdOf ByteArray.empty l1 x5_1).toList) = false := beq_eq_false_iff_ne.mpr c7
        have c7b1 : ((rdOf ByteArray.empty l0 x5_1).toList != (rdOf ByteArray.empty l1 x5_1).toList) = true := bne_iff_ne.mpr c7
        obtain rfl := Option.some.inj H
        have p503 : (0 ≤ (x5_1 : Int)) = True := oT
        have q503 : (x5_1 < (l0.length : Int)) = True := oT
        obtain ⟨ad503, e503, hx503_0⟩ := Kd.at_string HR0.out x5_1 oa oa
        cases e503
        have p504 : (0 ≤ (x5_1 : Int)) = True := oT
        have q504 : (x5_1 < (l1.length : Int)) = True := oT
        obtain ⟨ad504, e504, hx504_0⟩ := Kd.at_string HR1.out x5_1 oa oa
        cases e504
        go_wp2
        repeat (go_quiet (fail); try go_wp2)
        go_ret
        exact ⟨oS, oD⟩
      ·cases H
     ·cases H
    ·obtain rfl := Option.some.inj H
     go_wp2
     repeat (go_quiet (fail); try go_wp2)
     go_ret
     exact ⟨oS, oD⟩
 ·rw [if_neg c3] at H
  have c3b0 : ((l0.length : Int) == (l1.length : Int)) = false := beq_eq_false_iff_ne.mpr c3
  have c3b1 : ((l0.length : Int) != (l1.length : Int)) = true := bne_iff_ne.mpr c3
  have c3b2 : (l0.length == l1.length) = false := by first | simpa using c3 | (simp at c3 ⊢; omega)
  obtain rfl := Option.some.inj H
  go_enter Tryz.func8, Tryz.ntmps8
  go_wp2
  repeat (go_quiet (fail); try go_wp2)
  go_ret
  exact ⟨oS, oD⟩

/-! ### laws_eqByteS: function 73 -/
def laws_eqByteS.l0 : Nat → List Int → List Int → Int → Option (Bool)
 | 0, _, _, _ => none
 | k + 1, x0, x1, x5 => if x5 < (x0.length : Int) then (if 0 ≤ x5 then (if x5 < (x1.length : Int) then (if (rd x0 x5) = (rd x1 x5) then (laws_eqByteS.l0 k x0 x1 (wrap64 (x5 + 1))) else (some false)) else (none)) else (none)) else (some true)
def laws_eqByteS.f (k : Nat) (l0 : List Int) (l1 : List Int) : Option (Bool) := if (l0.length : Int) = (l1.length : Int) then (laws_eqByteS.l0 k l0 l1 0) else (some false)
set_option maxHeartbeats 8000000 in
set_option maxRecDepth 100000 in
theorem laws_eqByteS.calls (k : Nat) (A0 : Option Addr) (c0 : Nat) (l0 : List Int) (A1 : Option Addr) (c1 : Nat) (l1 : List Int) (r : Bool) (w : World) (hr0 : Kd.C (Kd.int .u8) w A0 l0.length l0) (hc0 : l0.length ≤ c0) (hr1 : Kd.C (Kd.int .u8) w A1 l1.length l1) (hc1 : l1.length ≤ c1) (h : laws_eqByteS.f k l0 l1 = some r) :
  Calls Tryz.prog 73 #[.slice A0 l0.length c0, .slice A1 l1.length c1] w fun e w' => e = .returned (.bool r) ∧ Drawn0 w w' := by
 have HR0 := Aside0.mk hr0
 have HC0 := Aside0.mk hc0
 clear hr0 hc0
 have HR1 := Aside0.mk hr1
 have HC1 := Aside0.mk hc1
 clear hr1 hc1
 unfold laws_eqByteS.f at h
 have H := h
 clear h
 by_cases c3 : (l0.length : Int) = (l1.length : Int)
 ·rw [if_pos c3] at H
  have c3b0 : ((l0.length : Int) == (l1.length : Int)) = true := beq_iff_eq.mpr c3
  have c3b1 : ((l0.length : Int) != (l1.length : Int)) = false := bne_eq_false_iff_eq.mpr c3
  have c3b2 : (l0.length == l1.length) = true := by first | simpa using c3 | (simp at c3 ⊢; omega)
  clear c3
  have H' := Aside0.mk H
  clear H
  go_enter Tryz.func73, Tryz.ntmps73
  go_wp2
  repeat (go_quiet (fail); try go_wp2)
  go_loopg [5] k (fun kq v5 w' => ∃ (x5_1 : Int), v5 = .int .i64 x5_1 ∧ Aside0 (laws_eqByteS.l0 kq l0 l1 x5_1 = some r) ∧ Aside0 (kq ≤ k) ∧ Drawn0 w w')
  case atStart => exact ⟨(0), oS, H', ⟨Nat.le_refl _⟩, oD⟩
  case round =>
   clear H'
   try clear c1
   try clear c3
   obtain ⟨x5_1, rfl, HA, HK1, ⟨m1, rfl⟩⟩ := hrel
   cases gk with
   | zero => exact absurd HA.out (by simp [laws_eqByteS.l0])
   | succ k1 =>
    have H := HA.out
    clear HA
    simp only [laws_eqByteS.l0] at H
    replace H := itD H
    rcases H with ⟨c4b0, H⟩ | ⟨c4b0, H⟩
    ·replace H := itD H
     rcases H with ⟨c5b0, H⟩ | ⟨c5b0, H⟩
     ·replace H := itD H
      rcases H with ⟨c6b0, H⟩ | ⟨c6b0, H⟩
      ·by_cases c7 : (rd l0 x5_1) = (rd l1 x5_1)
       ·rw [if_pos c7] at H
        have c7b0 : ((rd l0 x5_1) == (rd l1 x5_1)) = true := beq_iff_eq.mpr c7
        have c7b1 : ((rd l0 x5_1) != (rd l1 x5_1)) = false := bne_eq_false_iff_eq.mpr c7
        clear c7
        have H' := Aside0.mk H
        clear H
        have p505 : (0 ≤ (x5_1 : Int)) = True := oT
        have q505 : (x5_1 < (l0.length : Int)) = True := oT
        obtain ⟨ad505, e505, hx505_0⟩ := Kd.at_int HR0.out x5_1 oa oa
        cases e505
        have p506 : (0 ≤ (x5_1 : Int)) = True := oT
        have q506 : (x5_1 < (l1.length : Int)) = True := oT
        obtain ⟨ad506, e506, hx506_0⟩ := Kd.at_int HR1.out x5_1 oa oa
        cases e506
        go_wp2
        repeat (go_quiet (fail); try go_wp2)
        go_roundg k1
        case measure => have := HK1.out; omega
        case rel => exact ⟨(wrap64 (x5_1 + 1)), oS, H', ⟨by have := HK1.out; omega⟩, oD⟩
       ·rw [if_neg c7] at H
        have c7b0 : ((rd l0 x5_1) == (rd l1 x5_1)) = false := beq_eq_false_iff_ne.mpr c7
        have c7b1 : ((rd l0 x5_1) != (rd l1 x5_1)) = true := bne_iff_ne.mpr c7
        obtain rfl := Option.some.inj H
        have p505 : (0 ≤ (x5_1 : Int)) = True := oT
        have q505 : (x5_1 < (l0.length : Int)) = True := oT
        obtain ⟨ad505, e505, hx505_0⟩ := Kd.at_int HR0.out x5_1 oa oa
        cases e505
        have p506 : (0 ≤ (x5_1 : Int)) = True := oT
        have q506 : (x5_1 < (l1.length : Int)) = True := oT
        obtain ⟨ad506, e506, hx506_0⟩ := Kd.at_int HR1.out x5_1 oa oa
        cases e506
        go_wp2
        repeat (go_quiet (fail); try go_wp2)
        go_ret
        exact ⟨oS, oD⟩
      ·cases H
     ·cases H
    ·obtain rfl := Option.some.inj H
     go_wp2
     repeat (go_quiet (fail); try go_wp2)
     go_ret
     exact ⟨oS, oD⟩
 ·rw [if_neg c3] at H
  have c3b0 : ((l0.length : Int) == (l1.length : Int)) = false := beq_eq_false_iff_ne.mpr c3
  have c3b1 : ((l0.length : Int) != (l1.length : Int)) = true := bne_iff_ne.mpr c3
  have c3b2 : (l0.length == l1.length) = false := by first | simpa using c3 | (simp at c3 ⊢; omega)
  obtain rfl := Option.some.inj H
  go_enter Tryz.func73, Tryz.ntmps73
  go_wp2
  repeat (go_quiet (fail); try go_wp2)
  go_ret
  exact ⟨oS, oD⟩

/-! ### spec_l4At: function 29 -/
def spec_l4At.l0 : Nat → Int → Int → List (S47) → Int → Option (Int)
 | 0, _, _, _, _ => none
 | k + 1, x1, x5, x145000, x145001 => if x5 < (x145000.length : Int) then (if 0 ≤ x5 then (if ((rd_T47 x145000 x5).f0) = x1 then (some x5) else (spec_l4At.l0 k x1 (wrap64 (x5 + 1)) x145000 x145001)) else (none)) else (some (-1))
def spec_l4At.f (k : Nat) (l0_0 : List (S47)) (a0_1 : Int) (a1 : Int) : Option (Int) := spec_l4At.l0 k a1 0 l0_0 a0_1
set_option maxHeartbeats 8000000 in
set_option maxRecDepth 100000 in
theorem spec_l4At.calls (k : Nat) (A0_0 : Option Addr) (c0_0 : Nat) (l0_0 : List (S47)) (a0_1 : Int) (a1 : Int) (r : Int) (w : World) (hr0_0 : Kd.C k47 w A0_0 l0_0.length l0_0) (hc0_0 : l0_0.length ≤ c0_0) (h : spec_l4At.f k l0_0 a0_1 a1 = some r) :
  Calls Tryz.prog 29 #[.agg #[.slice A0_0 l0_0.length c0_0, .int .i64 a0_1], .int .i64 a1] w fun e w' => e = .returned (.int .i64 r) ∧ Below w.heap.size w w' := by
 have hu30 := Tryz.underlying30
 have HR0_0 := Aside0.mk hr0_0
 have HC0_0 := Aside0.mk hc0_0
 clear hr0_0 hc0_0
 have HB := Aside0.mk (Below.refl w.heap.size w)
 unfold spec_l4At.f at h
 have H := h
 clear h
 have H' := Aside0.mk H
 clear H
 go_enter Tryz.func29, Tryz.ntmps29
 go_wp2_with (first | ((with_reducible refine gate_dst (N := 2) rfl ?_); refine bx_ 2 #[.slice A0_0 l0_0.length c0_0, .int .i64 a0_1] 30 ?_; intro gb144 hg w3 hbox hb; have BK144 := Aside0.mk (hbox); have GW144 := gs_ hg; replace HB := Aside0.mk (below_step oB hb); clear hb hbox hg))
 go_loopg [5] k (fun kq v5 w' => ∃ (x5_1 : Int), v5 = .int .i64 x5_1 ∧ Aside0 (spec_l4At.l0 kq a1 x5_1 l0_0 a0_1 = some r) ∧ Aside0 (kq ≤ k) ∧ Aside0 (w'.heap[gb144]? = some (.cells #[(.slice A0_0 l0_0.length c0_0), .int .i64 a0_1] 30 (0, 0))) ∧ Aside0 (Below w.heap.size w w'))
 case atStart => exact ⟨(0), oS, H', ⟨Nat.le_refl _⟩, ⟨oF BK144⟩, ⟨oB⟩⟩
 case round =>
  clear H'
  obtain ⟨x5_1, rfl, HA, HK1, BK144, HB⟩ := hrel
  cases gk with
  | zero => exact absurd HA.out (by simp [spec_l4At.l0])
  | succ k1 =>
   have H := HA.out
   clear HA
   simp only [spec_l4At.l0] at H
   replace H := itD H
   rcases H with ⟨c4b0, H⟩ | ⟨c4b0, H⟩
   ·replace H := itD H
    rcases H with ⟨c5b0, H⟩ | ⟨c5b0, H⟩
    ·by_cases c6 : ((rd_T47 l0_0 x5_1).f0) = a1
     ·rw [if_pos c6] at H
      have c6b0 : (((rd_T47 l0_0 x5_1).f0) == a1) = true := beq_iff_eq.mpr c6
      have c6b1 : (((rd_T47 l0_0 x5_1).f0) != a1) = false := bne_eq_false_iff_eq.mpr c6
      clear c6
      obtain rfl := Option.some.inj H
      obtain ⟨⟨_, _⟩, _, _⟩ := z2 BK144
      have p145 : (0 ≤ (x5_1 : Int)) = True := oT
      have q145 : (x5_1 < (l0_0.length : Int)) = True := oT
      obtain ⟨ad145, A145_3, c145_3, A145_4, c145_4, A145_5, c145_5, e145, hx145_0, hx145_1, hx145_2, hx145_3, hx145_4, hx145_5, hl145_3, hi145_3, hl145_4, hi145_4, hl145_5, hi145_5⟩ := at_T47 HR0_0.out x5_1 oa oa
      cases e145
      replace hx145_0 := cB HB hx145_0
      replace hx145_1 := cB HB hx145_1
      replace hx145_2 := cB HB hx145_2
      replace hx145_3 := cB HB hx145_3
      replace hx145_4 := cB HB hx145_4
      replace hx145_5 := cB HB hx145_5
      have HR145_3 := Aside0.mk hi145_3
      have HC145_3 := Aside0.mk hl145_3
      clear hi145_3 hl145_3
      have HR145_4 := Aside0.mk hi145_4
      have HC145_4 := Aside0.mk hl145_4
      clear hi145_4 hl145_4
      have HR145_5 := Aside0.mk hi145_5
      have HC145_5 := Aside0.mk hl145_5
      clear hi145_5 hl145_5
      go_wp2
      go_ret
      exact ⟨oE, oB⟩
     ·rw [if_neg c6] at H
      have c6b0 : (((rd_T47 l0_0 x5_1).f0) == a1) = false := beq_eq_false_iff_ne.mpr c6
      have c6b1 : (((rd_T47 l0_0 x5_1).f0) != a1) = true := bne_iff_ne.mpr c6
      have H' := Aside0.mk H
      clear H
      obtain ⟨⟨_, _⟩, _, _⟩ := z2 BK144
      have p145 : (0 ≤ (x5_1 : Int)) = True := oT
      have q145 : (x5_1 < (l0_0.length : Int)) = True := oT
      obtain ⟨ad145, A145_3, c145_3, A145_4, c145_4, A145_5, c145_5, e145, hx145_0, hx145_1, hx145_2, hx145_3, hx145_4, hx145_5, hl145_3, hi145_3, hl145_4, hi145_4, hl145_5, hi145_5⟩ := at_T47 HR0_0.out x5_1 oa oa
      cases e145
      replace hx145_0 := cB HB hx145_0
      replace hx145_1 := cB HB hx145_1
      replace hx145_2 := cB HB hx145_2
      replace hx145_3 := cB HB hx145_3
      replace hx145_4 := cB HB hx145_4
      replace hx145_5 := cB HB hx145_5
      have HR145_3 := Aside0.mk hi145_3
      have HC145_3 := Aside0.mk hl145_3
      clear hi145_3 hl145_3
      have HR145_4 := Aside0.mk hi145_4
      have HC145_4 := Aside0.mk hl145_4
      clear hi145_4 hl145_4
      have HR145_5 := Aside0.mk hi145_5
      have HC145_5 := Aside0.mk hl145_5
      clear hi145_5 hl145_5
      go_wp2
      go_roundg k1
      case measure => have := HK1.out; omega
      case rel => exact ⟨(wrap64 (x5_1 + 1)), oS, H', ⟨by have := HK1.out; omega⟩, ⟨oF BK144⟩, ⟨oB⟩⟩
    ·cases H
   ·obtain rfl := Option.some.inj H
    obtain ⟨⟨_, _⟩, _, _⟩ := z2 BK144
    go_wp2
    go_ret
    exact ⟨oE, oB⟩

/-! ### laws_toByteS: function 50 -/
def laws_toByteS.l0 : Nat → List Int → List Int → Int → Option (List Int)
 | 0, _, _, _ => none
 | k + 1, x0, x3, x4 => if x4 < (x0.length : Int) then (if 0 ≤ x4 then (if x4 < (x3.length : Int) then (laws_toByteS.l0 k x0 (x3.set (x4 : Int).toNat (rd x0 x4)) (wrap64 (x4 + 1))) else (none)) else (none)) else (some x3)
def laws_toByteS.f (k : Nat) (l0 : List Int) : Option (List Int) := if 0 ≤ (l0.length : Int) then (if ((l0.length : Int) : Int).toNat ≤ 281474976710656 then (laws_toByteS.l0 k l0 (List.replicate ((l0.length : Int) : Int).toNat 0) 0) else (none)) else (none)
set_option maxHeartbeats 8000000 in
set_option maxRecDepth 100000 in
theorem laws_toByteS.calls (k : Nat) (A0 : Option Addr) (c0 : Nat) (l0 : List Int) (r : List Int) (w : World) (hr0 : Kd.C (Kd.int .u8) w A0 l0.length l0) (hc0 : l0.length ≤ c0) (h : laws_toByteS.f k l0 = some r) :
  Calls Tryz.prog 50 #[.slice A0 l0.length c0] w fun e w' => ∃ v0_ : Value, e = .returned (v0_) ∧ Kd.R (Kd.int .u8) 5 w' w.heap.size (fun _ => True) v0_ r ∧ Below w.heap.size w w' := by
 have HR0 := Aside0.mk hr0
 have HC0 := Aside0.mk hc0
 clear hr0 hc0
 have HB := Aside0.mk (Below.refl w.heap.size w)
 unfold laws_toByteS.f at h
 have H := h
 clear h
 by_cases c2 : 0 ≤ (l0.length : Int)
 ·rw [if_pos c2] at H
  have c2b0 := eq_true c2
  have c2b1 : decide (0 ≤ (l0.length : Int)) = true := decide_eq_true c2
  clear c2
  by_cases c3 : ((l0.length : Int) : Int).toNat ≤ 281474976710656
  ·rw [if_pos c3] at H
   have c3b0 := eq_true c3
   have c3b1 : decide (((l0.length : Int) : Int).toNat ≤ 281474976710656) = true := decide_eq_true c3
   clear c3
   obtain ⟨y265, hy265⟩ : ∃ y_ : List Int, y_ = (List.replicate ((l0.length : Int) : Int).toNat 0) := ⟨_, rfl⟩
   replace H : (laws_toByteS.l0 k l0 y265 0) = some r := by first | (rw [hy265]; with_reducible exact H) | (have H2_ := (Option.bind_some _ _).symm.trans H; rw [hy265]; with_reducible exact H2_) | (have H2_ := (Option.bind_some _ _).symm.trans H; with_reducible exact H2_) | with_reducible exact H | (rw [hy265]; exact H) | exact H
   have Ny265 := Aside0.mk hy265
   clear hy265
   have H' := Aside0.mk H
   clear H
   go_enter Tryz.func50, Tryz.ntmps50
   go_wp2_with (first | ((with_reducible refine gate_dst (N := 7) rfl ?_); refine Kd.R_make (Kd.int .u8) _ 5 rfl (N := 7) rfl 43 _ _ rfl (l0.length : Int) rfl rfl Tryz.underlying43 (.int .u8 0) 1 info5 rfl (by decide) (by omega) 0 (ok := fun _ => True) (okp := fun _ => True) rfl (fun _ hk => hk) trivial oa (Nat.le_trans (Nat.mul_le_mul_right _ (oa : (l0.length : Int).toNat ≤ 281474976710656)) (by omega)) (Below.refl _ _) (Nat.le_refl _) ?_; intro v266 w4 ho5 hb hg_ hnew_; clear hg_ hnew_; (first | rw [← Ny265.out] at ho5 | (simp only [Int.reduceToNat] at ho5; rw [← Ny265.out] at ho5)); have HO267 := Aside0.mk (Kd.R_lower ho5 (below_size oB)); replace HB := Aside0.mk (below_step oB hb); clear hb ho5))
   go_loopg [4] k (fun kq v4 w' => ∃ (x3_1 : List Int) (x4_1 : Int), v4 = .int .i64 x4_1 ∧ Aside0 (laws_toByteS.l0 kq l0 x3_1 x4_1 = some r) ∧ Aside0 (kq ≤ k) ∧ Aside0 (Kd.R (Kd.int .u8) 5 w' w.heap.size (fun _ => True) v266 x3_1) ∧ Aside0 (Below w.heap.size w w'))
   case atStart => exact ⟨(y265), (0), oS, H', ⟨Nat.le_refl _⟩, ⟨oR HO267⟩, ⟨oB⟩⟩
   case round =>
    clear H'
    try clear c2
    try clear c2b0
    try clear c2b1
    try clear c3
    obtain ⟨x3_1, x4_1, rfl, HA, HK1, HO_3, HB⟩ := hrel
    cases gk with
    | zero => exact absurd HA.out (by simp [laws_toByteS.l0])
    | succ k1 =>
     have H := HA.out
     clear HA
     simp only [laws_toByteS.l0] at H
     replace H := itD H
     rcases H with ⟨c6b0, H⟩ | ⟨c6b0, H⟩
     ·replace H := itD H
      rcases H with ⟨c7b0, H⟩ | ⟨c7b0, H⟩
      ·replace H := itD H
       rcases H with ⟨c8b0, H⟩ | ⟨c8b0, H⟩
       ·obtain ⟨y269, hy269⟩ : ∃ y_ : List Int, y_ = (x3_1.set (x4_1 : Int).toNat (rd l0 x4_1)) := ⟨_, rfl⟩
        replace H : (laws_toByteS.l0 k1 l0 y269 (wrap64 (x4_1 + 1))) = some r := by first | (rw [hy269]; with_reducible exact H) | (have H2_ := (Option.bind_some _ _).symm.trans H; rw [hy269]; with_reducible exact H2_) | (have H2_ := (Option.bind_some _ _).symm.trans H; with_reducible exact H2_) | with_reducible exact H | (rw [hy269]; exact H) | exact H
        have Ny269 := Aside0.mk hy269
        clear hy269
        have H' := Aside0.mk H
        clear H
        have p268 : (0 ≤ (x4_1 : Int)) = True := oT
        have q268 : (x4_1 < (l0.length : Int)) = True := oT
        obtain ⟨ad268, e268, hx268_0⟩ := Kd.at_int HR0.out x4_1 oa oa
        cases e268
        replace hx268_0 := cB HB hx268_0
        have p9 : 0 ≤ (x4_1 : Int) := oa
        have q9 : (x4_1 : Int) < ((x3_1.length : Int) : Int) := oa
        obtain ⟨go9, co9, eo9, gb9, gl9, cl9, HG9⟩ := Kd.R_form HO_3.out (by omega)
        (first | cases eo9 | (injection eo9 with ea_ en_ ec_; (first | subst ea_ | (injection ea_ with ea_; subst ea_)); subst ec_; clear en_))
        have GB9 := Aside0.mk gb9
        have GG9 := Aside0.mk HG9
        clear gb9 gl9 HG9
        obtain ⟨hx9_0, hf9_0⟩ := Kd.R_celln 0 HO_3.out (x4_1 : Int) p9 q9
        replace p9 := eq_true p9
        replace q9 := eq_true q9
        have HP10 := Kd.R_putg HO_3.out (x4_1 : Int) (rd l0 x4_1)
        go_wp2_with (first | ((with_reducible refine gate_store (t := 5) (p := 20) rfl ?_); refine store_event (t := 5) (p := 20) (v := ?vo_w11) (w1 := (wr.setCell ⟨go9, (x4_1 : Int).toNat, none⟩ (.int .u8 (rd l0 x4_1)))) ?hg ?ho ?hn ?hr ?_; (case ho => rfl); (case hg => rfl); (case hn => rfl); (case hr => first | (go_simp; done) | (go_simp; rfl)); intro w11 hw; have hg : wr.grownBy w11 (some go9) := (by rw [hw]; exact HP10.2); have hp_ : Kd.R (Kd.int .u8) 5 w11 w.heap.size (fun _ => True) (.slice (some ⟨go9, 0, none⟩) x3_1.length co9) y269 := (by rw [hw, Ny269.out]; exact HP10.1); clear HP10; replace HO_3 := Aside0.mk (hp_); replace HB := Aside0.mk ((by rw [hw]; exact below_set (HB.out) GB9.out : Below w.heap.size w w11)); clear hg hw hp_))
        go_roundg k1
        case measure => have := HK1.out; omega
        case rel => exact ⟨(y269), (wrap64 (x4_1 + 1)), oS, H', ⟨by have := HK1.out; omega⟩, ⟨oR HO_3⟩, ⟨oB⟩⟩
       ·cases H
      ·cases H
     ·obtain rfl := Option.some.inj H
      go_wp2
      go_ret
      exact ⟨_, oE, oR HO_3, oB⟩
  ·rw [if_neg c3] at H
   exact absurd H (by simp)
 ·rw [if_neg c2] at H
  exact absurd H (by simp)

end Go.Proofs.YtolkhimbfegkkaaGreat.P
