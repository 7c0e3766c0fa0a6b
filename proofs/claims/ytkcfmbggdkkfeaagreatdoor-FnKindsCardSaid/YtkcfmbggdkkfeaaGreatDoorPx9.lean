-- By this session's own program (wip/myprint.py) out of the translation; Lean checks it.
import Derived.Test.YtkcfmbggdkkfeaaGreatDoorPx0
import Derived.Test.YtkcfmbggdkkfeaaGreatDoorPx2
namespace Go.Proofs.YtkcfmbggdkkfeaaGreatDoor.P
open Go.RowKit Go.Proofs.YtkcfmbggdkkfeaaGreatDoorW.PrintWords Go.Proofs.YtkcfmbggdkkfeaaGreatDoorW.PrintLast Go.Proofs.YtkcfmbggdkkfeaaGreatDoorW.PrintMore
attribute [local go_sem] max2_int min2_int max_two min_two max_three min_three max_four min_four   -- for this text's walks alone
set_option linter.unusedVariables false
set_option linter.unusedSimpArgs false

/-! ### impl_EntOf: function 58 -/
def impl_EntOf.l0 : Nat → ByteArray → List (S65) → Int → Int → Option (Int)
 | 0, _, _, _, _ => none
 | k + 1, x1, x8, x9, x10 => if x10 < x9 then (if 0 ≤ x10 then (if x10 < (x8.length : Int) then (if ((rd_T65 x8 x10).f0).toList = x1.toList then (some ((rd_T65 x8 x10).f1)) else (impl_EntOf.l0 k x1 x8 x9 (wrap64 (x10 + 1)))) else (none)) else (none)) else (some 0)
def impl_EntOf.f (k : Nat) (a0_0 : Int) (a0_1 : Int) (a0_2 : Int) (l0_3 : List Int) (l0_4 : List (S65)) (l0_5 : List (S71)) (a1 : ByteArray) : Option (Int) := impl_EntOf.l0 k a1 l0_4 (l0_4.length : Int) 0
set_option maxHeartbeats 8000000 in
set_option maxRecDepth 100000 in
theorem impl_EntOf.calls (k : Nat) (a0_0 : Int) (a0_1 : Int) (a0_2 : Int) (A0_3 : Option Addr) (c0_3 : Nat) (l0_3 : List Int) (A0_4 : Option Addr) (c0_4 : Nat) (l0_4 : List (S65)) (A0_5 : Option Addr) (c0_5 : Nat) (l0_5 : List (S71)) (a1 : ByteArray) (r : Int) (w : World) (hr0_3 : Kd.C (Kd.int .u8) w A0_3 l0_3.length l0_3) (hc0_3 : l0_3.length ≤ c0_3) (hr0_4 : Kd.C k65 w A0_4 l0_4.length l0_4) (hc0_4 : l0_4.length ≤ c0_4) (hr0_5 : Kd.C k71 w A0_5 l0_5.length l0_5) (hc0_5 : l0_5.length ≤ c0_5) (h : impl_EntOf.f k a0_0 a0_1 a0_2 l0_3 l0_4 l0_5 a1 = some r) :
  Calls Tryz.prog 58 #[.agg #[.int .i64 a0_0, .int .i64 a0_1, .int .i64 a0_2, .slice A0_3 l0_3.length c0_3, .slice A0_4 l0_4.length c0_4, .slice A0_5 l0_5.length c0_5], .string a1] w fun e w' => e = .returned (.int .i64 r) ∧ Below w.heap.size w w' := by
 have hu51 := Tryz.underlying51
 have hu65 := Tryz.underlying65
 have HR0_3 := Aside0.mk hr0_3
 have HC0_3 := Aside0.mk hc0_3
 clear hr0_3 hc0_3
 have HR0_4 := Aside0.mk hr0_4
 have HC0_4 := Aside0.mk hc0_4
 clear hr0_4 hc0_4
 have HR0_5 := Aside0.mk hr0_5
 have HC0_5 := Aside0.mk hc0_5
 clear hr0_5 hc0_5
 have HB := Aside0.mk (Below.refl w.heap.size w)
 unfold impl_EntOf.f at h
 have H := h
 clear h
 have H' := Aside0.mk H
 clear H
 go_enter Tryz.func58, Tryz.ntmps58
 go_wp2_with (first | ((with_reducible refine gate_dst (N := 2) rfl ?_); refine bx_ 2 #[.int .i64 a0_0, .int .i64 a0_1, .int .i64 a0_2, .slice A0_3 l0_3.length c0_3, .slice A0_4 l0_4.length c0_4, .slice A0_5 l0_5.length c0_5] 51 ?_; intro gb278 hg w3 hbox hb; have BK278 := Aside0.mk (hbox); have GW278 := gs_ hg; replace HB := Aside0.mk (below_step oB hb); clear hb hbox hg; obtain ⟨⟨_, _, _, _, _, _⟩, _, _, _, _, _, _⟩ := z6 BK278))
 go_loopg [10] k (fun kq v10 w' => ∃ (x10_1 : Int), v10 = .int .i64 x10_1 ∧ Aside0 (impl_EntOf.l0 kq a1 l0_4 (l0_4.length : Int) x10_1 = some r) ∧ Aside0 (kq ≤ k) ∧ Aside0 (w'.heap[gb278]? = some (.cells #[.int .i64 a0_0, .int .i64 a0_1, .int .i64 a0_2, (.slice A0_3 l0_3.length c0_3), (.slice A0_4 l0_4.length c0_4), (.slice A0_5 l0_5.length c0_5)] 51 (0, 0))) ∧ Aside0 (Below w.heap.size w w'))
 case atStart => exact ⟨(0), oS, H', ⟨Nat.le_refl _⟩, ⟨oF BK278⟩, ⟨oB⟩⟩
 case round =>
  clear H'
  obtain ⟨x10_1, rfl, HA, HK1, BK278, HB⟩ := hrel
  cases gk with
  | zero => exact absurd HA.out (by simp [impl_EntOf.l0])
  | succ k1 =>
   have H := HA.out
   clear HA
   simp only [impl_EntOf.l0] at H
   replace H := itD H
   rcases H with ⟨c5b0, H⟩ | ⟨c5b0, H⟩
   ·replace H := itD H
    rcases H with ⟨c6b0, H⟩ | ⟨c6b0, H⟩
    ·replace H := itD H
     rcases H with ⟨c7b0, H⟩ | ⟨c7b0, H⟩
     ·by_cases c8 : ((rd_T65 l0_4 x10_1).f0).toList = a1.toList
      ·rw [if_pos c8] at H
       have c8b0 : (((rd_T65 l0_4 x10_1).f0).toList == a1.toList) = true := beq_iff_eq.mpr c8
       have c8b1 : (((rd_T65 l0_4 x10_1).f0).toList != a1.toList) = false := bne_eq_false_iff_eq.mpr c8
       clear c8
       obtain rfl := Option.some.inj H
       have p279 : (0 ≤ (x10_1 : Int)) = True := oT
       have q279 : (x10_1 < (l0_4.length : Int)) = True := oT
       obtain ⟨ad279, e279, hx279_0, hx279_1⟩ := at_T65 HR0_4.out x10_1 oa oa
       cases e279
       replace hx279_0 := cB HB hx279_0
       replace hx279_1 := cB HB hx279_1
       go_wp2_with (first | ((with_reducible refine gate_dst (N := 6) rfl ?_); refine bx_ 6 #[.string (⟨#[]⟩ : ByteArray), .int .i64 0] 65 ?_; intro gb280 hg w9 hbox hb; have BK280 := Aside0.mk (hbox); have GW280 := gs_ hg; have NB278_280 := nl_ hg BK278; have NB280_278 := nr_ hg BK278; replace BK278 := kb_ BK278 hb; replace HB := Aside0.mk (below_step oB hb); clear hb hbox hg; have hnb10 := NB280_278.out; have hnc10 := NB278_280.out; obtain ⟨⟨_, _⟩, _, _⟩ := z2 BK280))
       go_ret
       exact ⟨oE, oB⟩
      ·rw [if_neg c8] at H
       have c8b0 : (((rd_T65 l0_4 x10_1).f0).toList == a1.toList) = false := beq_eq_false_iff_ne.mpr c8
       have c8b1 : (((rd_T65 l0_4 x10_1).f0).toList != a1.toList) = true := bne_iff_ne.mpr c8
       have H' := Aside0.mk H
       clear H
       have p279 : (0 ≤ (x10_1 : Int)) = True := oT
       have q279 : (x10_1 < (l0_4.length : Int)) = True := oT
       obtain ⟨ad279, e279, hx279_0, hx279_1⟩ := at_T65 HR0_4.out x10_1 oa oa
       cases e279
       replace hx279_0 := cB HB hx279_0
       replace hx279_1 := cB HB hx279_1
       go_wp2_with (first | ((with_reducible refine gate_dst (N := 6) rfl ?_); refine bx_ 6 #[.string (⟨#[]⟩ : ByteArray), .int .i64 0] 65 ?_; intro gb280 hg w12 hbox hb; have BK280 := Aside0.mk (hbox); have GW280 := gs_ hg; have NB278_280 := nl_ hg BK278; have NB280_278 := nr_ hg BK278; replace BK278 := kb_ BK278 hb; replace HB := Aside0.mk (below_step oB hb); clear hb hbox hg; have hnb13 := NB280_278.out; have hnc13 := NB278_280.out; obtain ⟨⟨_, _⟩, _, _⟩ := z2 BK280))
       go_roundg k1
       case measure => have := HK1.out; omega
       case rel => exact ⟨(wrap64 (x10_1 + 1)), oS, H', ⟨by have := HK1.out; omega⟩, ⟨oF BK278⟩, ⟨oB⟩⟩
     ·cases H
    ·cases H
   ·obtain rfl := Option.some.inj H
    go_wp2
    go_ret
    exact ⟨oE, oB⟩

/-! ### impl_Walk: function 31 -/
def impl_Walk.l0 : Nat → Int → List ByteArray → Int → Int → List (S51) → Int → Option (Int × Int)
 | 0, _, _, _, _, _, _ => none
 | k + 1, x8, x20, x21, x22, x282000, x282001 => if x22 < x21 then (if 0 ≤ x22 then (if x22 < (x20.length : Int) then ((impl_InodeAt.f k x282000 x282001 x8).bind fun bt287 => (if bt287.2.2.2.2.2.2 = true then (if bt287.2.1 = 2 then ((impl_EntOf.f k bt287.1 bt287.2.1 bt287.2.2.1 bt287.2.2.2.1 bt287.2.2.2.2.1 bt287.2.2.2.2.2.1 (rdOf ByteArray.empty x20 x22)).bind fun t301 => (if t301 = 0 then (some (0, 2)) else (impl_Walk.l0 k t301 x20 x21 (wrap64 (x22 + 1)) x282000 x282001))) else (some (0, 3))) else (some (0, 2)))) else (none)) else (none)) else (some (x8, 0))
def impl_Walk.f (k : Nat) (l0_0 : List (S51)) (a0_1 : Int) (a1 : ByteArray) : Option (Int × Int) := (impl_SplitPath.f k a1).bind fun bt282 => (if bt282.2 = true then (impl_Walk.l0 k 1 bt282.1 (bt282.1.length : Int) 0 l0_0 a0_1) else (some (0, 1)))
set_option maxHeartbeats 8000000 in
set_option maxRecDepth 100000 in
theorem impl_Walk.calls (k : Nat) (A0_0 : Option Addr) (c0_0 : Nat) (l0_0 : List (S51)) (a0_1 : Int) (a1 : ByteArray) (r1 : Int) (r2 : Int) (w : World) (hr0_0 : Kd.C k51 w A0_0 l0_0.length l0_0) (hc0_0 : l0_0.length ≤ c0_0) (h : impl_Walk.f k l0_0 a0_1 a1 = some (r1, r2)) (hG : GOk w := by exact gk_ oB (by first | (with_reducible assumption) | assumption)) :
  Calls Tryz.prog 31 #[.agg #[.slice A0_0 l0_0.length c0_0, .int .i64 a0_1], .string a1] w fun e w' => e = .returned (.tuple #[.int .i64 r1, .int .i64 r2]) ∧ Below w.heap.size w w' := by
 have HG := Aside0.mk hG
 clear hG
 have hu26 := Tryz.underlying26
 have hu51 := Tryz.underlying51
 have HR0_0 := Aside0.mk hr0_0
 have HC0_0 := Aside0.mk hc0_0
 clear hr0_0 hc0_0
 have HB := Aside0.mk (Below.refl w.heap.size w)
 unfold impl_Walk.f at h
 have H := h
 clear h
 replace H := bA H
 obtain ⟨⟨t282, t283⟩, A3, H⟩ := H
 try dsimp only at H
 replace H := itB H
 rcases H with ⟨rfl, H⟩ | ⟨rfl, H⟩
 ·have H' := Aside0.mk H
  clear H
  go_enter Tryz.func31, Tryz.ntmps31
  go_wp2_with (first | ((with_reducible refine gate_dst (N := 2) rfl ?_); refine bx_ 2 #[.slice A0_0 l0_0.length c0_0, .int .i64 a0_1] 26 ?_; intro gb281 hg w5 hbox hb; have BK281 := Aside0.mk (hbox); have GW281 := gs_ hg; replace HB := Aside0.mk (below_step oB hb); clear hb hbox hg) | ((with_reducible refine gate_callee (f := 16) rfl ?_); refine gl_ 15 Tryz.func16 (impl_SplitPath.calls k a1 t282 true _ A3.out) ?_; rintro e w6 ⟨v284, rfl, ho0, hb⟩; refine ⟨_, rfl, ?_⟩; have HO285 := Aside0.mk (Kd.Q_lower ho0 (below_size oB)); replace BK281 := kb_ BK281 hb; replace HB := Aside0.mk (below_step oB hb); obtain ⟨Ao7, co7, eo7, _⟩ := Kd.Q_slice HO285.out; subst eo7))
  go_loopg [8, 22] k (fun kq v8 v22 w' => ∃ (x8_1 : Int) (x22_1 : Int), v8 = .int .i64 x8_1 ∧ v22 = .int .i64 x22_1 ∧ Aside0 (impl_Walk.l0 kq x8_1 t282 (t282.length : Int) x22_1 l0_0 a0_1 = some (r1, r2)) ∧ Aside0 (kq ≤ k) ∧ Aside0 (Kd.Q Kd.string 9 w' w.heap.size (fun _ => True) (.slice Ao7 t282.length co7) t282) ∧ Aside0 (w'.heap[gb281]? = some (.cells #[(.slice A0_0 l0_0.length c0_0), .int .i64 a0_1] 26 (0, 0))) ∧ Aside0 (Below w.heap.size w w'))
  case atStart => exact ⟨(1), (0), oS, oS, H', ⟨Nat.le_refl _⟩, ⟨by (with_reducible repeat (first | apply Kd.Q_alloc | apply Kd.Q_drewN | apply Kd.Q_drew)); exact HO285.out⟩, ⟨oF BK281⟩, ⟨oB⟩⟩
  case round =>
   clear H'
   obtain ⟨x8_1, x22_1, rfl, rfl, HA, HK1, HO_20, BK281, HB⟩ := hrel
   cases gk with
   | zero => exact absurd HA.out (by simp [impl_Walk.l0])
   | succ k1 =>
    have H := HA.out
    clear HA
    simp only [impl_Walk.l0] at H
    replace H := itD H
    rcases H with ⟨c8b0, H⟩ | ⟨c8b0, H⟩
    ·replace H := itD H
     rcases H with ⟨c9b0, H⟩ | ⟨c9b0, H⟩
     ·replace H := itD H
      rcases H with ⟨c10b0, H⟩ | ⟨c10b0, H⟩
      ·replace H := bA H
       obtain ⟨⟨t287, t288, t289, t290, t293, t296, t299⟩, A11, H⟩ := H
       try dsimp only at H
       replace H := itB H
       rcases H with ⟨rfl, H⟩ | ⟨rfl, H⟩
       ·by_cases c13 : t288 = 2
        ·rw [if_pos c13] at H
         have c13b0 : (t288 == 2) = true := beq_iff_eq.mpr c13
         have c13b1 : (t288 != 2) = false := bne_eq_false_iff_eq.mpr c13
         clear c13
         replace H := bA H
         obtain ⟨t301, A14, H⟩ := H
         try dsimp only at H
         by_cases c15 : t301 = 0
         ·rw [if_pos c15] at H
          have c15b0 : (t301 == 0) = true := beq_iff_eq.mpr c15
          have c15b1 : (t301 != 0) = false := bne_eq_false_iff_eq.mpr c15
          clear c15
          simp only [Option.some.injEq, Prod.mk.injEq] at H
          obtain ⟨rfl, rfl⟩ := H
          have p286 : (0 ≤ (x22_1 : Int)) = True := oT
          have q286 : (x22_1 < (t282.length : Int)) = True := oT
          obtain ⟨ad286, e286, hx286_0⟩ := Kd.at_string (Kd.Q_reads' HO_20.out).2.2 x22_1 oa oa
          cases e286
          obtain ⟨⟨_, _⟩, _, _⟩ := z2 BK281
          go_wp2_with (first | ((with_reducible refine gate_callee (f := 42) rfl ?_); refine gl_ 29 Tryz.func42 (impl_InodeAt.calls k1 _ _ l0_0 a0_1 x8_1 t287 t288 t289 t290 t293 t296 true _ (kC HR0_0) HC0_0.out A11.out) ?_; rintro e w17 ⟨v291, v294, v297, rfl, ho0, ho1, ho2, hb⟩; refine ⟨_, rfl, ?_⟩; have HO292 := Aside0.mk (Kd.R_lower ho0 (below_size oB)); have HO295 := Aside0.mk (Kd.R_lower ho1 (below_size oB)); have HO298 := Aside0.mk (Kd.R_lower ho2 (below_size oB)); replace HO_20 := beQ0 HO_20 hb; replace BK281 := kb_ BK281 hb; replace HB := Aside0.mk (below_step oB hb); (try clear ho1); (try clear ho2)) | ((with_reducible refine gate_dst (N := 11) rfl ?_); refine bx_ 11 #[.int .i64 0, .int .i64 0, .int .i64 0, .slice none 0 0, .slice none 0 0, .slice none 0 0] 51 ?_; intro gb300 hg w18 hbox hb; have BK300 := Aside0.mk (hbox); have GW300 := gs_ hg; have NB281_300 := nl_ hg BK281; have NB300_281 := nr_ hg BK281; replace HO_20 := beQ0 HO_20 hb; replace HO292 := kr_ HO292 hb; replace HO295 := kr_ HO295 hb; replace HO298 := kr_ HO298 hb; replace BK281 := kb_ BK281 hb; replace HB := Aside0.mk (below_step oB hb); clear hb hbox hg; have hnb19 := NB300_281.out; have hnc19 := NB281_300.out; obtain ⟨⟨_, _, _, _, _, _⟩, _, _, _, _, _, _⟩ := z6 BK300; obtain ⟨Ao21, co21, eo21⟩ := Kd.R_slice HO292.out; subst eo21; obtain ⟨Ao22, co22, eo22⟩ := Kd.R_slice HO295.out; subst eo22; obtain ⟨Ao23, co23, eo23⟩ := Kd.R_slice HO298.out; subst eo23) | ((with_reducible refine gate_callee (f := 58) rfl ?_); refine gl_ 41 Tryz.func58 (impl_EntOf.calls k1 t287 t288 t289 _ _ t290 _ _ t293 _ _ t296 (rdOf ByteArray.empty t282 x22_1) t301 _ (rcR1 HO292 BK300) (ko HO292) (rcR1 HO295 BK300) (ko HO295) (rcR1 HO298 BK300) (ko HO298) A14.out) ?_; rintro e w24 ⟨rfl, hb⟩; refine ⟨_, rfl, ?_⟩; replace HO_20 := beQ1 HO_20 BK300 hb; replace HO292 := beR1 HO292 BK300 hb; replace HO295 := beR1 HO295 BK300 hb; replace HO298 := beR1 HO298 BK300 hb; replace BK281 := kb_ BK281 hb; replace BK300 := kp_ #[.int .i64 t287, .int .i64 t288, .int .i64 t289, .slice Ao21 t290.length co21, .slice Ao22 t293.length co22, .slice Ao23 t296.length co23] BK300 hb; replace HB := Aside0.mk (below_step oB hb); (try clear hk)))
          go_ret2
          exact ⟨oE, oB⟩
         ·rw [if_neg c15] at H
          have c15b0 : (t301 == 0) = false := beq_eq_false_iff_ne.mpr c15
          have c15b1 : (t301 != 0) = true := bne_iff_ne.mpr c15
          have H' := Aside0.mk H
          clear H
          have p286 : (0 ≤ (x22_1 : Int)) = True := oT
          have q286 : (x22_1 < (t282.length : Int)) = True := oT
          obtain ⟨ad286, e286, hx286_0⟩ := Kd.at_string (Kd.Q_reads' HO_20.out).2.2 x22_1 oa oa
          cases e286
          obtain ⟨⟨_, _⟩, _, _⟩ := z2 BK281
          go_wp2_with (first | ((with_reducible refine gate_callee (f := 42) rfl ?_); refine gl_ 29 Tryz.func42 (impl_InodeAt.calls k1 _ _ l0_0 a0_1 x8_1 t287 t288 t289 t290 t293 t296 true _ (kC HR0_0) HC0_0.out A11.out) ?_; rintro e w26 ⟨v291, v294, v297, rfl, ho0, ho1, ho2, hb⟩; refine ⟨_, rfl, ?_⟩; have HO292 := Aside0.mk (Kd.R_lower ho0 (below_size oB)); have HO295 := Aside0.mk (Kd.R_lower ho1 (below_size oB)); have HO298 := Aside0.mk (Kd.R_lower ho2 (below_size oB)); replace HO_20 := beQ0 HO_20 hb; replace BK281 := kb_ BK281 hb; replace HB := Aside0.mk (below_step oB hb); (try clear ho1); (try clear ho2)) | ((with_reducible refine gate_dst (N := 11) rfl ?_); refine bx_ 11 #[.int .i64 0, .int .i64 0, .int .i64 0, .slice none 0 0, .slice none 0 0, .slice none 0 0] 51 ?_; intro gb300 hg w27 hbox hb; have BK300 := Aside0.mk (hbox); have GW300 := gs_ hg; have NB281_300 := nl_ hg BK281; have NB300_281 := nr_ hg BK281; replace HO_20 := beQ0 HO_20 hb; replace HO292 := kr_ HO292 hb; replace HO295 := kr_ HO295 hb; replace HO298 := kr_ HO298 hb; replace BK281 := kb_ BK281 hb; replace HB := Aside0.mk (below_step oB hb); clear hb hbox hg; have hnb28 := NB300_281.out; have hnc28 := NB281_300.out; obtain ⟨⟨_, _, _, _, _, _⟩, _, _, _, _, _, _⟩ := z6 BK300; obtain ⟨Ao30, co30, eo30⟩ := Kd.R_slice HO292.out; subst eo30; obtain ⟨Ao31, co31, eo31⟩ := Kd.R_slice HO295.out; subst eo31; obtain ⟨Ao32, co32, eo32⟩ := Kd.R_slice HO298.out; subst eo32) | ((with_reducible refine gate_callee (f := 58) rfl ?_); refine gl_ 41 Tryz.func58 (impl_EntOf.calls k1 t287 t288 t289 _ _ t290 _ _ t293 _ _ t296 (rdOf ByteArray.empty t282 x22_1) t301 _ (rcR1 HO292 BK300) (ko HO292) (rcR1 HO295 BK300) (ko HO295) (rcR1 HO298 BK300) (ko HO298) A14.out) ?_; rintro e w33 ⟨rfl, hb⟩; refine ⟨_, rfl, ?_⟩; replace HO_20 := beQ1 HO_20 BK300 hb; replace HO292 := beR1 HO292 BK300 hb; replace HO295 := beR1 HO295 BK300 hb; replace HO298 := beR1 HO298 BK300 hb; replace BK281 := kb_ BK281 hb; replace BK300 := kp_ #[.int .i64 t287, .int .i64 t288, .int .i64 t289, .slice Ao30 t290.length co30, .slice Ao31 t293.length co31, .slice Ao32 t296.length co32] BK300 hb; replace HB := Aside0.mk (below_step oB hb); (try clear hk)))
          go_roundg k1
          case measure => have := HK1.out; omega
          case rel => exact ⟨(t301), (wrap64 (x22_1 + 1)), oS, oS, H', ⟨by have := HK1.out; omega⟩, ⟨by (with_reducible repeat (first | apply Kd.Q_alloc | apply Kd.Q_drewN | apply Kd.Q_drew)); exact HO_20.out⟩, ⟨oF BK281⟩, ⟨oB⟩⟩
        ·rw [if_neg c13] at H
         have c13b0 : (t288 == 2) = false := beq_eq_false_iff_ne.mpr c13
         have c13b1 : (t288 != 2) = true := bne_iff_ne.mpr c13
         simp only [Option.some.injEq, Prod.mk.injEq] at H
         obtain ⟨rfl, rfl⟩ := H
         have p286 : (0 ≤ (x22_1 : Int)) = True := oT
         have q286 : (x22_1 < (t282.length : Int)) = True := oT
         obtain ⟨ad286, e286, hx286_0⟩ := Kd.at_string (Kd.Q_reads' HO_20.out).2.2 x22_1 oa oa
         cases e286
         obtain ⟨⟨_, _⟩, _, _⟩ := z2 BK281
         go_wp2_with (first | ((with_reducible refine gate_callee (f := 42) rfl ?_); refine gl_ 29 Tryz.func42 (impl_InodeAt.calls k1 _ _ l0_0 a0_1 x8_1 t287 t288 t289 t290 t293 t296 true _ (kC HR0_0) HC0_0.out A11.out) ?_; rintro e w35 ⟨v291, v294, v297, rfl, ho0, ho1, ho2, hb⟩; refine ⟨_, rfl, ?_⟩; have HO292 := Aside0.mk (Kd.R_lower ho0 (below_size oB)); have HO295 := Aside0.mk (Kd.R_lower ho1 (below_size oB)); have HO298 := Aside0.mk (Kd.R_lower ho2 (below_size oB)); replace HO_20 := beQ0 HO_20 hb; replace BK281 := kb_ BK281 hb; replace HB := Aside0.mk (below_step oB hb); (try clear ho1); (try clear ho2)) | ((with_reducible refine gate_dst (N := 11) rfl ?_); refine bx_ 11 #[.int .i64 0, .int .i64 0, .int .i64 0, .slice none 0 0, .slice none 0 0, .slice none 0 0] 51 ?_; intro gb300 hg w36 hbox hb; have BK300 := Aside0.mk (hbox); have GW300 := gs_ hg; have NB281_300 := nl_ hg BK281; have NB300_281 := nr_ hg BK281; replace HO_20 := beQ0 HO_20 hb; replace HO292 := kr_ HO292 hb; replace HO295 := kr_ HO295 hb; replace HO298 := kr_ HO298 hb; replace BK281 := kb_ BK281 hb; replace HB := Aside0.mk (below_step oB hb); clear hb hbox hg; have hnb37 := NB300_281.out; have hnc37 := NB281_300.out; obtain ⟨⟨_, _, _, _, _, _⟩, _, _, _, _, _, _⟩ := z6 BK300; obtain ⟨Ao39, co39, eo39⟩ := Kd.R_slice HO292.out; subst eo39; obtain ⟨Ao40, co40, eo40⟩ := Kd.R_slice HO295.out; subst eo40; obtain ⟨Ao41, co41, eo41⟩ := Kd.R_slice HO298.out; subst eo41))
         go_ret2
         exact ⟨oE, oB⟩
       ·simp only [Option.some.injEq, Prod.mk.injEq] at H
        obtain ⟨rfl, rfl⟩ := H
        have p286 : (0 ≤ (x22_1 : Int)) = True := oT
        have q286 : (x22_1 < (t282.length : Int)) = True := oT
        obtain ⟨ad286, e286, hx286_0⟩ := Kd.at_string (Kd.Q_reads' HO_20.out).2.2 x22_1 oa oa
        cases e286
        obtain ⟨⟨_, _⟩, _, _⟩ := z2 BK281
        go_wp2_with (first | ((with_reducible refine gate_callee (f := 42) rfl ?_); refine gl_ 29 Tryz.func42 (impl_InodeAt.calls k1 _ _ l0_0 a0_1 x8_1 t287 t288 t289 t290 t293 t296 false _ (kC HR0_0) HC0_0.out A11.out) ?_; rintro e w43 ⟨v291, v294, v297, rfl, ho0, ho1, ho2, hb⟩; refine ⟨_, rfl, ?_⟩; have HO292 := Aside0.mk (Kd.R_lower ho0 (below_size oB)); have HO295 := Aside0.mk (Kd.R_lower ho1 (below_size oB)); have HO298 := Aside0.mk (Kd.R_lower ho2 (below_size oB)); replace HO_20 := beQ0 HO_20 hb; replace BK281 := kb_ BK281 hb; replace HB := Aside0.mk (below_step oB hb); (try clear ho1); (try clear ho2)) | ((with_reducible refine gate_dst (N := 11) rfl ?_); refine bx_ 11 #[.int .i64 0, .int .i64 0, .int .i64 0, .slice none 0 0, .slice none 0 0, .slice none 0 0] 51 ?_; intro gb300 hg w44 hbox hb; have BK300 := Aside0.mk (hbox); have GW300 := gs_ hg; have NB281_300 := nl_ hg BK281; have NB300_281 := nr_ hg BK281; replace HO_20 := beQ0 HO_20 hb; replace HO292 := kr_ HO292 hb; replace HO295 := kr_ HO295 hb; replace HO298 := kr_ HO298 hb; replace BK281 := kb_ BK281 hb; replace HB := Aside0.mk (below_step oB hb); clear hb hbox hg; have hnb45 := NB300_281.out; have hnc45 := NB281_300.out; obtain ⟨⟨_, _, _, _, _, _⟩, _, _, _, _, _, _⟩ := z6 BK300; obtain ⟨Ao47, co47, eo47⟩ := Kd.R_slice HO292.out; subst eo47; obtain ⟨Ao48, co48, eo48⟩ := Kd.R_slice HO295.out; subst eo48; obtain ⟨Ao49, co49, eo49⟩ := Kd.R_slice HO298.out; subst eo49))
        go_ret2
        exact ⟨oE, oB⟩
      ·cases H
     ·cases H
    ·simp only [Option.some.injEq, Prod.mk.injEq] at H
     obtain ⟨rfl, rfl⟩ := H
     go_wp2
     go_ret2
     exact ⟨oE, oB⟩
 ·simp only [Option.some.injEq, Prod.mk.injEq] at H
  obtain ⟨rfl, rfl⟩ := H
  go_enter Tryz.func31, Tryz.ntmps31
  go_wp2_with (first | ((with_reducible refine gate_dst (N := 2) rfl ?_); refine bx_ 2 #[.slice A0_0 l0_0.length c0_0, .int .i64 a0_1] 26 ?_; intro gb281 hg w50 hbox hb; have BK281 := Aside0.mk (hbox); have GW281 := gs_ hg; replace HB := Aside0.mk (below_step oB hb); clear hb hbox hg) | ((with_reducible refine gate_callee (f := 16) rfl ?_); refine gl_ 15 Tryz.func16 (impl_SplitPath.calls k a1 t282 false _ A3.out) ?_; rintro e w51 ⟨v284, rfl, ho0, hb⟩; refine ⟨_, rfl, ?_⟩; have HO285 := Aside0.mk (Kd.Q_lower ho0 (below_size oB)); replace BK281 := kb_ BK281 hb; replace HB := Aside0.mk (below_step oB hb)))
  go_ret2
  exact ⟨oE, oB⟩

/-! ### impl_Stat: function 28 -/
def impl_Stat.f (k : Nat) (l0_0 : List (S51)) (a0_1 : Int) (a1 : ByteArray) : Option (Int × Int × Int × List Int × (List (S65)) × (List (S71)) × Int) := (impl_Walk.f k l0_0 a0_1 a1).bind fun bt304 => (if bt304.2 = 0 then ((impl_InodeAt.f k l0_0 a0_1 bt304.1).bind fun bt306 => (if bt306.2.2.2.2.2.2 = true then (some (bt306.1, bt306.2.1, bt306.2.2.1, bt306.2.2.2.1, bt306.2.2.2.2.1, bt306.2.2.2.2.2.1, 0)) else (some (0, 0, 0, ([] : List Int), ([] : List (S65)), ([] : List (S71)), 2)))) else (some (0, 0, 0, ([] : List Int), ([] : List (S65)), ([] : List (S71)), bt304.2)))
set_option maxHeartbeats 8000000 in
set_option maxRecDepth 100000 in
theorem impl_Stat.calls (k : Nat) (A0_0 : Option Addr) (c0_0 : Nat) (l0_0 : List (S51)) (a0_1 : Int) (a1 : ByteArray) (r1 : Int) (r2 : Int) (r3 : Int) (r4 : List Int) (r5 : List (S65)) (r6 : List (S71)) (r7 : Int) (w : World) (hr0_0 : Kd.C k51 w A0_0 l0_0.length l0_0) (hc0_0 : l0_0.length ≤ c0_0) (h : impl_Stat.f k l0_0 a0_1 a1 = some (r1, r2, r3, r4, r5, r6, r7)) (hG : GOk w := by exact gk_ oB (by first | (with_reducible assumption) | assumption)) :
  Calls Tryz.prog 28 #[.agg #[.slice A0_0 l0_0.length c0_0, .int .i64 a0_1], .string a1] w fun e w' => ∃ v3_ v4_ v5_ : Value, e = .returned (.tuple #[.agg #[.int .i64 r1, .int .i64 r2, .int .i64 r3, v3_, v4_, v5_], .int .i64 r7]) ∧ Kd.R (Kd.int .u8) 5 w' w.heap.size (fun _ => True) v3_ r4 ∧ Kd.R k65 65 w' w.heap.size (fun _ => True) v4_ r5 ∧ Kd.R k71 71 w' w.heap.size (fun _ => True) v5_ r6 ∧ Below w.heap.size w w' := by
 have HG := Aside0.mk hG
 clear hG
 have hu26 := Tryz.underlying26
 have hu51 := Tryz.underlying51
 have HR0_0 := Aside0.mk hr0_0
 have HC0_0 := Aside0.mk hc0_0
 clear hr0_0 hc0_0
 have HB := Aside0.mk (Below.refl w.heap.size w)
 unfold impl_Stat.f at h
 have H := h
 clear h
 replace H := bA H
 obtain ⟨⟨t304, t305⟩, A3, H⟩ := H
 try dsimp only at H
 by_cases c4 : t305 = 0
 ·rw [if_pos c4] at H
  have c4b0 : (t305 == 0) = true := beq_iff_eq.mpr c4
  have c4b1 : (t305 != 0) = false := bne_eq_false_iff_eq.mpr c4
  clear c4
  replace H := bA H
  obtain ⟨⟨t306, t307, t308, t309, t312, t315, t318⟩, A5, H⟩ := H
  try dsimp only at H
  replace H := itB H
  rcases H with ⟨rfl, H⟩ | ⟨rfl, H⟩
  ·simp only [Option.some.injEq, Prod.mk.injEq] at H
   obtain ⟨rfl, rfl, rfl, rfl, rfl, rfl, rfl⟩ := H
   go_enter Tryz.func28, Tryz.ntmps28
   go_wp2_with (first | ((with_reducible refine gate_dst (N := 2) rfl ?_); refine bx_ 2 #[.slice A0_0 l0_0.length c0_0, .int .i64 a0_1] 26 ?_; intro gb302 hg w7 hbox hb; have BK302 := Aside0.mk (hbox); have GW302 := gs_ hg; replace HB := Aside0.mk (below_step oB hb); clear hb hbox hg) | ((with_reducible refine gate_dst (N := 4) rfl ?_); refine bx_ 4 #[.int .i64 0, .int .i64 0, .int .i64 0, .slice none 0 0, .slice none 0 0, .slice none 0 0] 51 ?_; intro gb303 hg w8 hbox hb; have BK303 := Aside0.mk (hbox); have GW303 := gs_ hg; have NB302_303 := nl_ hg BK302; have NB303_302 := nr_ hg BK302; replace BK302 := kb_ BK302 hb; replace HB := Aside0.mk (below_step oB hb); clear hb hbox hg; have hnb9 := NB302_303.out; have hnc9 := NB303_302.out; obtain ⟨⟨_, _⟩, _, _⟩ := z2 BK302) | ((with_reducible refine gate_callee (f := 31) rfl ?_); refine gl_ 13 Tryz.func31 (impl_Walk.calls k _ _ l0_0 a0_1 a1 t304 t305 _ (kC HR0_0) HC0_0.out A3.out) ?_; rintro e w11 ⟨rfl, hb⟩; refine ⟨_, rfl, ?_⟩; replace BK302 := kb_ BK302 hb; replace BK303 := kb_ BK303 hb; replace HB := Aside0.mk (below_step oB hb); obtain ⟨⟨_, _⟩, _, _⟩ := z2 BK302) | ((with_reducible refine gate_callee (f := 42) rfl ?_); refine gl_ 23 Tryz.func42 (impl_InodeAt.calls k _ _ l0_0 a0_1 t304 t306 t307 t308 t309 t312 t315 true _ (kC HR0_0) HC0_0.out A5.out) ?_; rintro e w13 ⟨v310, v313, v316, rfl, ho0, ho1, ho2, hb⟩; refine ⟨_, rfl, ?_⟩; have HO311 := Aside0.mk (Kd.R_lower ho0 (below_size oB)); have HO314 := Aside0.mk (Kd.R_lower ho1 (below_size oB)); have HO317 := Aside0.mk (Kd.R_lower ho2 (below_size oB)); replace BK302 := kb_ BK302 hb; replace BK303 := kb_ BK303 hb; replace HB := Aside0.mk (below_step oB hb); (try clear ho1); (try clear ho2)) | ((with_reducible refine gate_dst (N := 8) rfl ?_); refine bx_ 8 #[.int .i64 0, .int .i64 0, .int .i64 0, .slice none 0 0, .slice none 0 0, .slice none 0 0] 51 ?_; intro gb319 hg w14 hbox hb; have BK319 := Aside0.mk (hbox); have GW319 := gs_ hg; have NB302_319 := nl_ hg BK302; have NB319_302 := nr_ hg BK302; have NB303_319 := nl_ hg BK303; have NB319_303 := nr_ hg BK303; replace HO311 := kr_ HO311 hb; replace HO314 := kr_ HO314 hb; replace HO317 := kr_ HO317 hb; replace BK302 := kb_ BK302 hb; replace BK303 := kb_ BK303 hb; replace HB := Aside0.mk (below_step oB hb); clear hb hbox hg; have hnb15 := NB319_302.out; have hnc15 := NB302_319.out; have hnb16 := NB319_303.out; have hnc16 := NB303_319.out; obtain ⟨⟨_, _, _, _, _, _⟩, _, _, _, _, _, _⟩ := z6 BK319; obtain ⟨Ao18, co18, eo18⟩ := Kd.R_slice HO311.out; subst eo18; obtain ⟨Ao19, co19, eo19⟩ := Kd.R_slice HO314.out; subst eo19; obtain ⟨Ao20, co20, eo20⟩ := Kd.R_slice HO317.out; subst eo20; obtain ⟨⟨_, _, _, _, _, _⟩, _, _, _, _, _, _⟩ := z6 BK303))
   refine bodyPost_ret (results_ct rfl _ _ gb303 51 #[.int .i64 t306, .int .i64 t307, .int .i64 t308, .slice Ao18 t309.length co18, .slice Ao19 t312.length co19, .slice Ao20 t315.length co20] (0, 0) _ rfl (oP BK303) Tryz.underlying51 rfl (by kernel_rfl)) rfl ?_
   exact ⟨_, _, _, oE, by (with_reducible repeat (first | apply Kd.R_alloc | apply Kd.R_drewN | apply Kd.R_drew)); exact Kd.R_mono (Kd.R_far (p := ⟨gb303, 5, none⟩) (Kd.R_far (p := ⟨gb303, 4, none⟩) (Kd.R_far (p := ⟨gb303, 3, none⟩) (Kd.R_far (p := ⟨gb303, 2, none⟩) (Kd.R_far (p := ⟨gb303, 1, none⟩) (Kd.R_far (p := ⟨gb303, 0, none⟩) (Kd.R_far (p := ⟨gb319, 5, none⟩) (Kd.R_far (p := ⟨gb319, 4, none⟩) (Kd.R_far (p := ⟨gb319, 3, none⟩) (Kd.R_far (p := ⟨gb319, 2, none⟩) (Kd.R_far (p := ⟨gb319, 1, none⟩) (Kd.R_far (p := ⟨gb319, 0, none⟩) (Kd.R_types (Kd.R_types HO311.out BK319.out (by decide)) BK303.out (by decide)) (fun _ hk => hk.1.2) (.int .i64 t306)) (fun _ hk => hk.1.2) (.int .i64 t307)) (fun _ hk => hk.1.2) (.int .i64 t308)) (fun _ hk => hk.1.2) (.slice Ao18 t309.length co18)) (fun _ hk => hk.1.2) (.slice Ao19 t312.length co19)) (fun _ hk => hk.1.2) (.slice Ao20 t315.length co20)) (fun _ hk => hk.2) (.int .i64 t306)) (fun _ hk => hk.2) (.int .i64 t307)) (fun _ hk => hk.2) (.int .i64 t308)) (fun _ hk => hk.2) (.slice Ao18 t309.length co18)) (fun _ hk => hk.2) (.slice Ao19 t312.length co19)) (fun _ hk => hk.2) (.slice Ao20 t315.length co20)) (fun _ hk => trivial), by (with_reducible repeat (first | apply Kd.R_alloc | apply Kd.R_drewN | apply Kd.R_drew)); exact Kd.R_mono (Kd.R_far (p := ⟨gb303, 5, none⟩) (Kd.R_far (p := ⟨gb303, 4, none⟩) (Kd.R_far (p := ⟨gb303, 3, none⟩) (Kd.R_far (p := ⟨gb303, 2, none⟩) (Kd.R_far (p := ⟨gb303, 1, none⟩) (Kd.R_far (p := ⟨gb303, 0, none⟩) (Kd.R_far (p := ⟨gb319, 5, none⟩) (Kd.R_far (p := ⟨gb319, 4, none⟩) (Kd.R_far (p := ⟨gb319, 3, none⟩) (Kd.R_far (p := ⟨gb319, 2, none⟩) (Kd.R_far (p := ⟨gb319, 1, none⟩) (Kd.R_far (p := ⟨gb319, 0, none⟩) (Kd.R_types (Kd.R_types HO314.out BK319.out (by decide)) BK303.out (by decide)) (fun _ hk => hk.1.2) (.int .i64 t306)) (fun _ hk => hk.1.2) (.int .i64 t307)) (fun _ hk => hk.1.2) (.int .i64 t308)) (fun _ hk => hk.1.2) (.slice Ao18 t309.length co18)) (fun _ hk => hk.1.2) (.slice Ao19 t312.length co19)) (fun _ hk => hk.1.2) (.slice Ao20 t315.length co20)) (fun _ hk => hk.2) (.int .i64 t306)) (fun _ hk => hk.2) (.int .i64 t307)) (fun _ hk => hk.2) (.int .i64 t308)) (fun _ hk => hk.2) (.slice Ao18 t309.length co18)) (fun _ hk => hk.2) (.slice Ao19 t312.length co19)) (fun _ hk => hk.2) (.slice Ao20 t315.length co20)) (fun _ hk => trivial), by (with_reducible repeat (first | apply Kd.R_alloc | apply Kd.R_drewN | apply Kd.R_drew)); exact Kd.R_mono (Kd.R_far (p := ⟨gb303, 5, none⟩) (Kd.R_far (p := ⟨gb303, 4, none⟩) (Kd.R_far (p := ⟨gb303, 3, none⟩) (Kd.R_far (p := ⟨gb303, 2, none⟩) (Kd.R_far (p := ⟨gb303, 1, none⟩) (Kd.R_far (p := ⟨gb303, 0, none⟩) (Kd.R_far (p := ⟨gb319, 5, none⟩) (Kd.R_far (p := ⟨gb319, 4, none⟩) (Kd.R_far (p := ⟨gb319, 3, none⟩) (Kd.R_far (p := ⟨gb319, 2, none⟩) (Kd.R_far (p := ⟨gb319, 1, none⟩) (Kd.R_far (p := ⟨gb319, 0, none⟩) (Kd.R_types (Kd.R_types HO317.out BK319.out (by decide)) BK303.out (by decide)) (fun _ hk => hk.1.2) (.int .i64 t306)) (fun _ hk => hk.1.2) (.int .i64 t307)) (fun _ hk => hk.1.2) (.int .i64 t308)) (fun _ hk => hk.1.2) (.slice Ao18 t309.length co18)) (fun _ hk => hk.1.2) (.slice Ao19 t312.length co19)) (fun _ hk => hk.1.2) (.slice Ao20 t315.length co20)) (fun _ hk => hk.2) (.int .i64 t306)) (fun _ hk => hk.2) (.int .i64 t307)) (fun _ hk => hk.2) (.int .i64 t308)) (fun _ hk => hk.2) (.slice Ao18 t309.length co18)) (fun _ hk => hk.2) (.slice Ao19 t312.length co19)) (fun _ hk => hk.2) (.slice Ao20 t315.length co20)) (fun _ hk => trivial), oB⟩
  ·simp only [Option.some.injEq, Prod.mk.injEq] at H
   obtain ⟨rfl, rfl, rfl, rfl, rfl, rfl, rfl⟩ := H
   go_enter Tryz.func28, Tryz.ntmps28
   go_wp2_with (first | ((with_reducible refine gate_dst (N := 2) rfl ?_); refine bx_ 2 #[.slice A0_0 l0_0.length c0_0, .int .i64 a0_1] 26 ?_; intro gb302 hg w22 hbox hb; have BK302 := Aside0.mk (hbox); have GW302 := gs_ hg; replace HB := Aside0.mk (below_step oB hb); clear hb hbox hg) | ((with_reducible refine gate_dst (N := 4) rfl ?_); refine bx_ 4 #[.int .i64 0, .int .i64 0, .int .i64 0, .slice none 0 0, .slice none 0 0, .slice none 0 0] 51 ?_; intro gb303 hg w23 hbox hb; have BK303 := Aside0.mk (hbox); have GW303 := gs_ hg; have NB302_303 := nl_ hg BK302; have NB303_302 := nr_ hg BK302; replace BK302 := kb_ BK302 hb; replace HB := Aside0.mk (below_step oB hb); clear hb hbox hg; have hnb24 := NB302_303.out; have hnc24 := NB303_302.out; obtain ⟨⟨_, _⟩, _, _⟩ := z2 BK302) | ((with_reducible refine gate_callee (f := 31) rfl ?_); refine gl_ 13 Tryz.func31 (impl_Walk.calls k _ _ l0_0 a0_1 a1 t304 t305 _ (kC HR0_0) HC0_0.out A3.out) ?_; rintro e w26 ⟨rfl, hb⟩; refine ⟨_, rfl, ?_⟩; replace BK302 := kb_ BK302 hb; replace BK303 := kb_ BK303 hb; replace HB := Aside0.mk (below_step oB hb); obtain ⟨⟨_, _⟩, _, _⟩ := z2 BK302) | ((with_reducible refine gate_callee (f := 42) rfl ?_); refine gl_ 23 Tryz.func42 (impl_InodeAt.calls k _ _ l0_0 a0_1 t304 t306 t307 t308 t309 t312 t315 false _ (kC HR0_0) HC0_0.out A5.out) ?_; rintro e w28 ⟨v310, v313, v316, rfl, ho0, ho1, ho2, hb⟩; refine ⟨_, rfl, ?_⟩; have HO311 := Aside0.mk (Kd.R_lower ho0 (below_size oB)); have HO314 := Aside0.mk (Kd.R_lower ho1 (below_size oB)); have HO317 := Aside0.mk (Kd.R_lower ho2 (below_size oB)); replace BK302 := kb_ BK302 hb; replace BK303 := kb_ BK303 hb; replace HB := Aside0.mk (below_step oB hb); (try clear ho1); (try clear ho2)) | ((with_reducible refine gate_dst (N := 8) rfl ?_); refine bx_ 8 #[.int .i64 0, .int .i64 0, .int .i64 0, .slice none 0 0, .slice none 0 0, .slice none 0 0] 51 ?_; intro gb319 hg w29 hbox hb; have BK319 := Aside0.mk (hbox); have GW319 := gs_ hg; have NB302_319 := nl_ hg BK302; have NB319_302 := nr_ hg BK302; have NB303_319 := nl_ hg BK303; have NB319_303 := nr_ hg BK303; replace HO311 := kr_ HO311 hb; replace HO314 := kr_ HO314 hb; replace HO317 := kr_ HO317 hb; replace BK302 := kb_ BK302 hb; replace BK303 := kb_ BK303 hb; replace HB := Aside0.mk (below_step oB hb); clear hb hbox hg; have hnb30 := NB319_302.out; have hnc30 := NB302_319.out; have hnb31 := NB319_303.out; have hnc31 := NB303_319.out; obtain ⟨⟨_, _, _, _, _, _⟩, _, _, _, _, _, _⟩ := z6 BK319; obtain ⟨Ao33, co33, eo33⟩ := Kd.R_slice HO311.out; subst eo33; obtain ⟨Ao34, co34, eo34⟩ := Kd.R_slice HO314.out; subst eo34; obtain ⟨Ao35, co35, eo35⟩ := Kd.R_slice HO317.out; subst eo35; obtain ⟨⟨_, _, _, _, _, _⟩, _, _, _, _, _, _⟩ := z6 BK303))
   refine bodyPost_ret (results_ct rfl _ _ gb303 51 #[.int .i64 0, .int .i64 0, .int .i64 0, .slice none 0 0, .slice none 0 0, .slice none 0 0] (0, 0) _ rfl (oP BK303) Tryz.underlying51 rfl (by kernel_rfl)) rfl ?_
   exact ⟨_, _, _, oE, by first | exact Kd.R_nil _ _ _ _ _ | exact Kd.N_nil _ _ _ _ _ | exact Kd.V_nil _ _ _ _ _ | exact Kd.Q_nil _ _ _ _ _ | exact Kd.S_nil _ _ _ _ _, by first | exact Kd.R_nil _ _ _ _ _ | exact Kd.N_nil _ _ _ _ _ | exact Kd.V_nil _ _ _ _ _ | exact Kd.Q_nil _ _ _ _ _ | exact Kd.S_nil _ _ _ _ _, by first | exact Kd.R_nil _ _ _ _ _ | exact Kd.N_nil _ _ _ _ _ | exact Kd.V_nil _ _ _ _ _ | exact Kd.Q_nil _ _ _ _ _ | exact Kd.S_nil _ _ _ _ _, oB⟩
 ·rw [if_neg c4] at H
  have c4b0 : (t305 == 0) = false := beq_eq_false_iff_ne.mpr c4
  have c4b1 : (t305 != 0) = true := bne_iff_ne.mpr c4
  simp only [Option.some.injEq, Prod.mk.injEq] at H
  obtain ⟨rfl, rfl, rfl, rfl, rfl, rfl, rfl⟩ := H
  go_enter Tryz.func28, Tryz.ntmps28
  go_wp2_with (first | ((with_reducible refine gate_dst (N := 2) rfl ?_); refine bx_ 2 #[.slice A0_0 l0_0.length c0_0, .int .i64 a0_1] 26 ?_; intro gb302 hg w37 hbox hb; have BK302 := Aside0.mk (hbox); have GW302 := gs_ hg; replace HB := Aside0.mk (below_step oB hb); clear hb hbox hg) | ((with_reducible refine gate_dst (N := 4) rfl ?_); refine bx_ 4 #[.int .i64 0, .int .i64 0, .int .i64 0, .slice none 0 0, .slice none 0 0, .slice none 0 0] 51 ?_; intro gb303 hg w38 hbox hb; have BK303 := Aside0.mk (hbox); have GW303 := gs_ hg; have NB302_303 := nl_ hg BK302; have NB303_302 := nr_ hg BK302; replace BK302 := kb_ BK302 hb; replace HB := Aside0.mk (below_step oB hb); clear hb hbox hg; have hnb39 := NB302_303.out; have hnc39 := NB303_302.out; obtain ⟨⟨_, _⟩, _, _⟩ := z2 BK302) | ((with_reducible refine gate_callee (f := 31) rfl ?_); refine gl_ 13 Tryz.func31 (impl_Walk.calls k _ _ l0_0 a0_1 a1 t304 t305 _ (kC HR0_0) HC0_0.out A3.out) ?_; rintro e w41 ⟨rfl, hb⟩; refine ⟨_, rfl, ?_⟩; replace BK302 := kb_ BK302 hb; replace BK303 := kb_ BK303 hb; replace HB := Aside0.mk (below_step oB hb); obtain ⟨⟨_, _, _, _, _, _⟩, _, _, _, _, _, _⟩ := z6 BK303))
  refine bodyPost_ret (results_ct rfl _ _ gb303 51 #[.int .i64 0, .int .i64 0, .int .i64 0, .slice none 0 0, .slice none 0 0, .slice none 0 0] (0, 0) _ rfl (oP BK303) Tryz.underlying51 rfl (by kernel_rfl)) rfl ?_
  exact ⟨_, _, _, oE, by first | exact Kd.R_nil _ _ _ _ _ | exact Kd.N_nil _ _ _ _ _ | exact Kd.V_nil _ _ _ _ _ | exact Kd.Q_nil _ _ _ _ _ | exact Kd.S_nil _ _ _ _ _, by first | exact Kd.R_nil _ _ _ _ _ | exact Kd.N_nil _ _ _ _ _ | exact Kd.V_nil _ _ _ _ _ | exact Kd.Q_nil _ _ _ _ _ | exact Kd.S_nil _ _ _ _ _, by first | exact Kd.R_nil _ _ _ _ _ | exact Kd.N_nil _ _ _ _ _ | exact Kd.V_nil _ _ _ _ _ | exact Kd.Q_nil _ _ _ _ _ | exact Kd.S_nil _ _ _ _ _, oB⟩

-- NOT PRINTED: function 134 (strings_Join)

/-! ### impl_JoinPath: function 110 -/
theorem le_of_ {a b c : Nat} (h : Aside0 (a = b)) (k : Aside0 (b ≤ c)) : a ≤ c := Nat.le_trans (Nat.le_of_eq h.out) k.out
theorem rSpot {α : Type} {d : Kd α} {e base n c : Nat} {ok : Nat → Prop} {w : World} {A : Option Addr} {xs ys : List α} (h : d.R e w base ok (.slice A n c) xs) (_hs : ys.length ≤ xs.length) : ∀ ad, A = some ad → 0 < ys.length → ad.spot = none := by
 intro ad hA _
 subst hA
 obtain ⟨g, rfl⟩ := Kd.R_head h
 rfl
theorem qSpot {α : Type} {d : Kd α} {e base n c : Nat} {ok : Nat → Prop} {w : World} {A : Option Addr} {xs ys : List α} (h : d.Q e w base ok (.slice A n c) xs) (hs : ys.length ≤ xs.length) : ∀ ad, A = some ad → 0 < ys.length → ad.spot = none := by
 intro ad hA hp
 subst hA
 have hl := (Kd.Q_reads' h).1
 obtain ⟨_, inner, ⟨_, ho⟩, _⟩ := h
 rcases ho with ⟨h1, _⟩ | ⟨g, o, cap, cur, h1, _⟩
 ·omega
 ·injection h1 with h1
  injection h1 with h1
  rw [h1]
def joinB (l : List ByteArray) : ByteArray := ⟨(Lib.join (l.map (·.data.toList)) [47]).toArray⟩
theorem joinC (A : Option Addr) (c : Nat) (l : List ByteArray) (w : World) (hr : Kd.C Kd.string w A l.length l) (hA : ∀ ad, A = some ad → 0 < l.length → ad.spot = none) (hc : l.length ≤ c) (hN : l.length ≤ 140737488355328) (hlen : (joinB l).size ≤ 140737488355328) :
  Calls Tryz.prog 134 #[.slice A l.length c, .string ⟨#[47]⟩] w fun e w' => e = .returned (.string (joinB l)) ∧ Below w.heap.size w w' := by
 by_cases h0 : l.length = 0
 ·obtain rfl := List.eq_nil_of_length_eq_zero h0
  exact (Any.strings_Join_none Tryz.lays156 Tryz.Builder_Extra_156 A c ⟨#[47]⟩ w).mono fun e w' ⟨he, hw⟩ => ⟨he, hw ▸ Below.refl _ _⟩
 ·obtain ⟨ad, c1, e0, _, hK, hcell⟩ := Kd.C_get hr ⟨#[]⟩ 0 (by omega) (by omega)
  subst e0
  have hsp := hA ad rfl (by omega)
  obtain ⟨bk, o, sp⟩ := ad
  have hsp : sp = none := hsp
  subst hsp
  have hcells : ∀ (j : Nat) x, l[j]? = some x → w.cell? ⟨bk, o + j, none⟩ = some (.string x) := fun j x hx => by
   obtain ⟨hj, hx⟩ := List.getElem?_eq_some_iff.1 hx
   obtain ⟨ad', c', e', _, hK', hcell'⟩ := Kd.C_get hr ⟨#[]⟩ (j : Int) (by omega) (by omega)
   injection e' with e'
   subst e'
   have hg : l.getD (j : Int).toNat ⟨#[]⟩ = x := by rw [Int.toNat_natCast, List.getD_eq_getElem?_getD, List.getElem?_eq_getElem hj]; exact hx
   rw [hg] at hK'
   obtain rfl : c' = [.string x] := hK'
   have := hcell' 0 _ rfl
   simpa [Kd.string, Kd.scalar, Addr.add_lit] using this
  have hbk : bk < w.heap.size := World.block_lt_of_cell? w _ (hcells 0 l[0] (List.getElem?_eq_getElem (by omega)))
  exact Any.strings_Join Tryz.lays156 Tryz.Builder_Extra_156 bk o c l ⟨#[47]⟩ w hcells hbk hN hc (by simpa [joinB, ByteArray.size] using hlen)
def impl_JoinPath.f (k : Nat) (l : List ByteArray) : Option ByteArray := (impl_namesOk.f k l).bind fun b => if b = true then (if l.length ≤ 140737488355328 ∧ (joinB l).size ≤ 140737488355327 then some ((⟨#[47]⟩ : ByteArray) ++ joinB l) else none) else some ⟨#[]⟩
theorem impl_JoinPath.calls (k : Nat) (A0 : Option Addr) (c0 : Nat) (l0 : List ByteArray) (r : ByteArray) (w : World) (hr : Kd.C Kd.string w A0 l0.length l0) (hc0 : l0.length ≤ c0) (h : impl_JoinPath.f k l0 = some r) (hA : ∀ ad, A0 = some ad → 0 < l0.length → ad.spot = none := by first | exact qSpot (by first | (with_reducible assumption) | exact Aside0.out (by with_reducible assumption)) (by first | exact Nat.le_refl _ | exact List.length_take_le _ _ | exact le_of_ (by with_reducible assumption) (by with_reducible assumption)) | exact rSpot (by first | (with_reducible assumption) | exact Aside0.out (by with_reducible assumption)) (by first | exact Nat.le_refl _ | exact List.length_take_le _ _ | exact le_of_ (by with_reducible assumption) (by with_reducible assumption))) :
  Calls Tryz.prog 110 #[.slice A0 l0.length c0] w fun e w' => e = .returned (.string r) ∧ Below w.heap.size w w' := by
 unfold impl_JoinPath.f at h
 replace h := bA h
 obtain ⟨b, A1, h⟩ := h
 have hn := impl_namesOk.calls k A0 c0 l0 b w hr hc0 A1.out
 cases b with
 | true =>
  rw [if_pos rfl] at h
  split at h
  case isFalse => cases h
  case isTrue hl =>
  obtain rfl := Option.some.inj h
  have hs : 1 + (joinB l0).size ≤ 9223372036854775807 := by omega
  have hj := fun w1 (hb : Below w.heap.size w w1) => joinC A0 c0 l0 w1 (Kd.C_below hr hb) hA hc0 hl.1 (by omega)
  clear h hr hA hl A1 hc0
  go_enter Tryz.func110, Tryz.ntmps110
  go_wp2_with (first
   | (go_at_call 37; refine hn.mono ?_; rintro e w1 ⟨rfl, hb⟩)
   | (go_at_call 134; refine (hj _ hb).mono ?_; rintro e w2 ⟨rfl, hb2⟩))
  go_ret
  exact ⟨rfl, below_then hb hb.size hb2⟩
 | false =>
  rw [if_neg (by simp)] at h
  obtain rfl := Option.some.inj h
  clear h hr hA A1 hc0
  go_enter Tryz.func110, Tryz.ntmps110
  go_wp2_with (go_at_call 37; refine hn.mono ?_; rintro e w1 ⟨rfl, hb⟩)
  go_ret
  exact ⟨rfl, hb⟩
/-! ### impl_ParentOf: function 78 -/
def impl_ParentOf.f (k : Nat) (a0 : ByteArray) : Option (ByteArray × ByteArray × Bool) := (impl_SplitPath.f k a0).bind fun bt321 => (if bt321.2 = true then (if (bt321.1.length : Int) = 0 then (some ((⟨#[]⟩ : ByteArray), (⟨#[]⟩ : ByteArray), false)) else (if 0 ≤ (wrap64 ((bt321.1.length : Int) - 1)) then (if (wrap64 ((bt321.1.length : Int) - 1)) ≤ (bt321.1.length : Int) then ((impl_JoinPath.f k (bt321.1.take ((wrap64 ((bt321.1.length : Int) - 1)) : Int).toNat)).bind fun t329 => (if (wrap64 ((bt321.1.length : Int) - 1)) < (bt321.1.length : Int) then (some (t329, rdOf ByteArray.empty bt321.1 (wrap64 ((bt321.1.length : Int) - 1)), true)) else (none))) else (none)) else (none))) else (some ((⟨#[]⟩ : ByteArray), (⟨#[]⟩ : ByteArray), false)))
def impl_ParentOf.T5 : Bool × List (List Nat × List Nat) := (true, [([], []), ([], []), ([0, 1], [0, 1]), ([2], [2]), ([], []), ([], []), ([4, 5], [4, 5]), ([6], [6]), ([3, 3, 0, 1, 2, 3], [3]), ([7, 8, 0, 1, 2, 3, 4, 5, 6, 7, 8], [7]), ([9, 0, 1, 2, 3, 4, 5, 6, 7, 8, 9], [])])
def impl_ParentOf.B5 : List Nat := [0, 0, 3, 7, 0, 0, 48, 112, 15, 511, 1023]
theorem impl_ParentOf.tab5 : rtab .any (opsOf Tryz.f78 5) = impl_ParentOf.T5 := by kernel_rfl
theorem impl_ParentOf.bits5 : waitsOk impl_ParentOf.T5.2 impl_ParentOf.B5 = true := by kernel_rfl
set_option maxHeartbeats 8000000 in
set_option maxRecDepth 100000 in
theorem impl_ParentOf.calls (k : Nat) (a0 : ByteArray) (r1 : ByteArray) (r2 : ByteArray) (r3 : Bool) (w : World) (h : impl_ParentOf.f k a0 = some (r1, r2, r3)) (hG : GOk w := by exact gk_ oB (by first | (with_reducible assumption) | assumption)) :
  Calls Tryz.prog 78 #[.string a0] w fun e w' => e = .returned (.tuple #[.string r1, .string r2, .bool r3]) ∧ Below w.heap.size w w' := by
 have HG := Aside0.mk hG
 clear hG
 have HB := Aside0.mk (Below.refl w.heap.size w)
 unfold impl_ParentOf.f at h
 have H := h
 clear h
 replace H := bA H
 obtain ⟨⟨t321, t322⟩, A2, H⟩ := H
 try dsimp only at H
 replace H := itB H
 rcases H with ⟨rfl, H⟩ | ⟨rfl, H⟩
 ·by_cases c4 : (t321.length : Int) = 0
  ·rw [if_pos c4] at H
   have c4b0 : ((t321.length : Int) == 0) = true := beq_iff_eq.mpr c4
   have c4b1 : ((t321.length : Int) != 0) = false := bne_eq_false_iff_eq.mpr c4
   clear c4
   simp only [Option.some.injEq, Prod.mk.injEq] at H
   obtain ⟨rfl, rfl, rfl⟩ := H
   go_enter Tryz.func78, Tryz.ntmps78
   go_wp2_with (first | ((with_reducible refine gate_callee (f := 16) rfl ?_); refine gl_ 10 Tryz.func16 (impl_SplitPath.calls k a0 t321 true _ A2.out) ?_; rintro e w5 ⟨v323, rfl, ho0, hb⟩; refine ⟨_, rfl, ?_⟩; have HO324 := Aside0.mk (Kd.Q_lower ho0 (below_size oB)); replace HB := Aside0.mk (below_step oB hb); obtain ⟨Ao6, co6, eo6, _⟩ := Kd.Q_slice HO324.out; subst eo6))
   go_ret3
   exact ⟨oE, oB⟩
  ·rw [if_neg c4] at H
   have c4b0 : ((t321.length : Int) == 0) = false := beq_eq_false_iff_ne.mpr c4
   have c4b1 : ((t321.length : Int) != 0) = true := bne_iff_ne.mpr c4
   have c4b2 : ¬ (t321 = []) := fun h_ => c4 (by rw [h_]; rfl)
   obtain ⟨ji7, hji7⟩ : ∃ j_ : Int, (wrap64 ((t321.length : Int) - 1)) = j_ := ⟨_, rfl⟩
   replace H : (if 0 ≤ (ji7) then (if (ji7) ≤ (t321.length : Int) then ((impl_JoinPath.f k (t321.take ((ji7) : Int).toNat)).bind fun t329 => (if (ji7) < (t321.length : Int) then (some (t329, rdOf ByteArray.empty t321 (ji7), true)) else (none))) else (none)) else (none)) = some (r1, r2, r3) := by first | (rw [hji7] at H; exact H) | (simp only [hji7] at H ⊢; exact H)
   (try rw [hji7] at A2)
   have hji7w : (IntKind.i64.wrap ((t321.length : Int) - 1)) = ji7 := (i64_w _).trans hji7
   by_cases c8 : 0 ≤ (ji7)
   ·rw [if_pos c8] at H
    have c8b0 := eq_true c8
    have c8b1 : decide (0 ≤ (ji7)) = true := decide_eq_true c8
    clear c8
    by_cases c9 : (ji7) ≤ (t321.length : Int)
    ·rw [if_pos c9] at H
     have c9b0 := eq_true c9
     have c9b1 : decide ((ji7) ≤ (t321.length : Int)) = true := decide_eq_true c9
     clear c9
     obtain ⟨y325, hy325⟩ : ∃ y_ : List ByteArray, y_ = (t321.take ((ji7) : Int).toNat) := ⟨_, rfl⟩
     replace H : ((impl_JoinPath.f k y325).bind fun t329 => (if (ji7) < (t321.length : Int) then (some (t329, rdOf ByteArray.empty t321 (ji7), true)) else (none))) = some (r1, r2, r3) := by first | (rw [hy325]; with_reducible exact H) | (have H2_ := (Option.bind_some _ _).symm.trans H; rw [hy325]; with_reducible exact H2_) | (have H2_ := (Option.bind_some _ _).symm.trans H; with_reducible exact H2_) | with_reducible exact H | (rw [hy325]; exact H) | exact H
     have Ny325 := Aside0.mk hy325
     clear hy325
     replace H := bA H
     obtain ⟨t329, A10, H⟩ := H
     try dsimp only at H
     replace H := itD H
     rcases H with ⟨c11b0, H⟩ | ⟨c11b0, H⟩
     ·simp only [Option.some.injEq, Prod.mk.injEq] at H
      obtain ⟨rfl, rfl, rfl⟩ := H
      go_enter Tryz.func78, Tryz.ntmps78
      try go_wp2_with (first | ((with_reducible refine gate_callee (f := 16) rfl ?_); refine gl_ 10 Tryz.func16 (impl_SplitPath.calls k a0 t321 true _ A2.out) ?_; rintro e w12 ⟨v323, rfl, ho0, hb⟩; refine ⟨_, rfl, ?_⟩; have HO324 := Aside0.mk (Kd.Q_lower ho0 (below_size oB)); replace HB := Aside0.mk (below_step oB hb); obtain ⟨Ao13, co13, eo13, _⟩ := Kd.Q_slice HO324.out; subst eo13))
      replace HO324 := Aside0.mk (Kd.Q_drew HO324.out)
      replace HB := Aside0.mk (below_drew1 HB.out)
      have q15 : ((ji7) : Int) ≤ ((t321.length : Int) : Int) := oa
      obtain ⟨i015, hi015, _, hsz15, _⟩ := info_parts info9
      have hroom15 : t321.length ≤ co13 := (Kd.Q_reads' HO324.out).2.1
      have hC15 : Kd.C Kd.string _ Ao13 t321.length t321 := (Kd.Q_reads' HO324.out).2.2
      have hcut15 := cut_to (P := Tryz.prog) 31 9 .i64 Tryz.underlying31 hi015 Ao13 t321.length co13 (ji7) oa q15 hroom15
      have hr15 := Kd.C_take (m := ((ji7) : Int).toNat) hC15 (by omega)
      have hy15 : y325.length = ((ji7) : Int).toNat := (by rw [Ny325.out, List.length_take]; omega)
      rw [← Ny325.out] at hr15
      rw [← hy15] at hcut15
      have HR328 := Aside0.mk hr15
      have HC328 := Aside0.mk (show y325.length ≤ co13 from by omega)
      clear hr15 hC15 hroom15 hi015 hsz15
      have KY15 := Aside0.mk hy15
      clear hy15
      have KL15 := Aside0.mk (show ((ji7) : Int).toNat ≤ t321.length from by omega)
      replace q15 := eq_true q15
      have p330 : (0 ≤ ((ji7) : Int)) = True := oT
      have q330 : ((ji7) < (t321.length : Int)) = True := oT
      obtain ⟨ad330, e330, hx330_0⟩ := Kd.at_string (Kd.Q_reads' HO324.out).2.2 (ji7) oa oa
      cases e330
      refine st_ 11 (fun w' => w'.cell? (ad330.add ((ji7)).toNat) = some (.string (rdOf ByteArray.empty t321 (ji7)))) impl_ParentOf.tab5 impl_ParentOf.bits5 (hx330_0) (fun hHeld HT_ HW_ => ?_)
      generalize w12.drew = w14 at HO324 HB HR328 hx330_0 hHeld ⊢
      refine pu_ 0 23 HT_ ?_
      refine pu_ 1 24 HT_ ?_
      refine pu_ 2 25 HT_ ?_
      refine pu_ 4 27 HT_ ?_
      refine pu_ 5 28 HT_ ?_
      refine pu_ 6 29 HT_ ?_
      refine take_ (i := 7) (N := some 30) (v := ?_) (a' := ?_) (lb 11 247) rfl rfl (take_ofW HT_.out HW_.out (by kernel_rfl)) (fun _ _ _ h => h) (Or.inl ⟨by rfl, ?_⟩) hHeld ?_ ?_
      rotate_left
      ·intro w' s0
       go_simp
       with_reducible rfl
      rotate_left
      ·simp only [Act.put, List.setIfInBounds_toArray, List.set_cons_zero, List.set_cons_succ, i64_w, i32_w]
       rfl
      refine on_ 3 26 HT_ (fun K hK => ?_)
      refine gr_ 26 Tryz.func110 (impl_JoinPath.calls k _ _ y325 t329 _ ?side1 HC328.out A10.out) ?_
      (case side1 => repeat (first | exact (by repeat (first | (with_reducible exact HR328.out) | (with_reducible refine Kd.C_alloc ?_ _) | (with_reducible refine Kd.C_drewN ?_ _) | (with_reducible refine Kd.C_drew ?_) | exact HR328.out)) | (with_reducible refine Kd.C_alloc ?_ _) | (with_reducible refine Kd.C_drewN ?_ _) | (with_reducible refine Kd.C_drew ?_)))
      rintro e w16 ⟨rfl, hb⟩
      have HS0_ := (hb.cell (World.block_lt_of_cell? _ _ (hHeld))).trans (hHeld)
      refine ⟨_, rfl, ?_⟩
      replace HO324 := beQ0 HO324 hb
      replace HR328 := Aside0.mk (Kd.C_below (by repeat (first | (with_reducible exact HR328.out) | (with_reducible refine Kd.C_alloc ?_ _) | (with_reducible refine Kd.C_drewN ?_ _) | (with_reducible refine Kd.C_drew ?_) | exact HR328.out)) hb)
      replace HB := Aside0.mk (below_step oB hb)
      refine hk_ hK 26 (HS0_) (fun hHeld => ?_)
      clear hK K
      refine pu_ 8 2 HT_ ?_
      refine pu_ 9 3 HT_ ?_
      refine pu_ 10 4 HT_ ?_
      refine dn_ HT_ ?_
      try go_wp2
      go_ret3
      exact ⟨by first | rfl | (simp [errW_none, errW_some] <;> rfl) | (simp only [← hji7]; first | rfl | (simp [errW_none, errW_some] <;> rfl)) | (simp [*, errW_none, errW_some] <;> rfl), oB⟩
     ·cases H
    ·rw [if_neg c9] at H
     exact absurd H (by simp)
   ·rw [if_neg c8] at H
    exact absurd H (by simp)
 ·simp only [Option.some.injEq, Prod.mk.injEq] at H
  obtain ⟨rfl, rfl, rfl⟩ := H
  go_enter Tryz.func78, Tryz.ntmps78
  go_wp2_with (first | ((with_reducible refine gate_callee (f := 16) rfl ?_); refine gl_ 10 Tryz.func16 (impl_SplitPath.calls k a0 t321 false _ A2.out) ?_; rintro e w17 ⟨v323, rfl, ho0, hb⟩; refine ⟨_, rfl, ?_⟩; have HO324 := Aside0.mk (Kd.Q_lower ho0 (below_size oB)); replace HB := Aside0.mk (below_step oB hb)))
  go_ret3
  exact ⟨oE, oB⟩

/-! ### impl_spotOf: function 57 -/
def impl_spotOf.f (k : Nat) (l0_0 : List (S51)) (a0_1 : Int) (a1 : ByteArray) : Option (Int × Int × Int × List Int × (List (S65)) × (List (S71)) × ByteArray × Int) := (impl_ParentOf.f k a1).bind fun bt333 => ((impl_Stat.f k l0_0 a0_1 bt333.1).bind fun bt336 => (if bt336.2.2.2.2.2.2 = 0 then (if bt336.2.1 = 2 then (some (bt336.1, bt336.2.1, bt336.2.2.1, bt336.2.2.2.1, bt336.2.2.2.2.1, bt336.2.2.2.2.2.1, bt333.2.1, 0)) else (some (0, 0, 0, ([] : List Int), ([] : List (S65)), ([] : List (S71)), (⟨#[]⟩ : ByteArray), 3))) else (some (0, 0, 0, ([] : List Int), ([] : List (S65)), ([] : List (S71)), (⟨#[]⟩ : ByteArray), bt336.2.2.2.2.2.2))))
set_option maxHeartbeats 8000000 in
set_option maxRecDepth 100000 in
theorem impl_spotOf.calls (k : Nat) (A0_0 : Option Addr) (c0_0 : Nat) (l0_0 : List (S51)) (a0_1 : Int) (a1 : ByteArray) (r1 : Int) (r2 : Int) (r3 : Int) (r4 : List Int) (r5 : List (S65)) (r6 : List (S71)) (r7 : ByteArray) (r8 : Int) (w : World) (hr0_0 : Kd.C k51 w A0_0 l0_0.length l0_0) (hc0_0 : l0_0.length ≤ c0_0) (h : impl_spotOf.f k l0_0 a0_1 a1 = some (r1, r2, r3, r4, r5, r6, r7, r8)) (hG : GOk w := by exact gk_ oB (by first | (with_reducible assumption) | assumption)) :
  Calls Tryz.prog 57 #[.agg #[.slice A0_0 l0_0.length c0_0, .int .i64 a0_1], .string a1] w fun e w' => ∃ v3_ v4_ v5_ : Value, e = .returned (.tuple #[.agg #[.int .i64 r1, .int .i64 r2, .int .i64 r3, v3_, v4_, v5_, .string r7], .int .i64 r8]) ∧ Kd.R (Kd.int .u8) 5 w' w.heap.size (fun _ => True) v3_ r4 ∧ Kd.R k65 65 w' w.heap.size (fun _ => True) v4_ r5 ∧ Kd.R k71 71 w' w.heap.size (fun _ => True) v5_ r6 ∧ Below w.heap.size w w' := by
 have HG := Aside0.mk hG
 clear hG
 have hu26 := Tryz.underlying26
 have hu84 := Tryz.underlying84
 have hu51 := Tryz.underlying51
 have HR0_0 := Aside0.mk hr0_0
 have HC0_0 := Aside0.mk hc0_0
 clear hr0_0 hc0_0
 have HB := Aside0.mk (Below.refl w.heap.size w)
 unfold impl_spotOf.f at h
 have H := h
 clear h
 replace H := bA H
 obtain ⟨⟨t333, t334, t335⟩, A3, H⟩ := H
 try dsimp only at H
 replace H := bA H
 obtain ⟨⟨t336, t337, t338, t339, t342, t345, t348⟩, A4, H⟩ := H
 try dsimp only at H
 by_cases c5 : t348 = 0
 ·rw [if_pos c5] at H
  have c5b0 : (t348 == 0) = true := beq_iff_eq.mpr c5
  have c5b1 : (t348 != 0) = false := bne_eq_false_iff_eq.mpr c5
  clear c5
  by_cases c6 : t337 = 2
  ·rw [if_pos c6] at H
   have c6b0 : (t337 == 2) = true := beq_iff_eq.mpr c6
   have c6b1 : (t337 != 2) = false := bne_eq_false_iff_eq.mpr c6
   clear c6
   simp only [Option.some.injEq, Prod.mk.injEq] at H
   obtain ⟨rfl, rfl, rfl, rfl, rfl, rfl, rfl, rfl⟩ := H
   go_enter Tryz.func57, Tryz.ntmps57
   go_wp2_with (first | ((with_reducible refine gate_dst (N := 2) rfl ?_); refine bx_ 2 #[.slice A0_0 l0_0.length c0_0, .int .i64 a0_1] 26 ?_; intro gb331 hg w7 hbox hb; have BK331 := Aside0.mk (hbox); have GW331 := gs_ hg; replace HB := Aside0.mk (below_step oB hb); clear hb hbox hg) | ((with_reducible refine gate_dst (N := 4) rfl ?_); refine bx_ 4 #[.int .i64 0, .int .i64 0, .int .i64 0, .slice none 0 0, .slice none 0 0, .slice none 0 0, .string (⟨#[]⟩ : ByteArray)] 84 ?_; intro gb332 hg w8 hbox hb; have BK332 := Aside0.mk (hbox); have GW332 := gs_ hg; have NB331_332 := nl_ hg BK331; have NB332_331 := nr_ hg BK331; replace BK331 := kb_ BK331 hb; replace HB := Aside0.mk (below_step oB hb); clear hb hbox hg) | ((with_reducible refine gate_callee (f := 78) rfl ?_); refine gl_ 13 Tryz.func78 (impl_ParentOf.calls k a1 t333 t334 t335 _ A3.out) ?_; rintro e w9 ⟨rfl, hb⟩; refine ⟨_, rfl, ?_⟩; replace BK331 := kb_ BK331 hb; replace BK332 := kb_ BK332 hb; replace HB := Aside0.mk (below_step oB hb); have hnb10 := NB331_332.out; have hnc10 := NB332_331.out; obtain ⟨⟨_, _⟩, _, _⟩ := z2 BK331) | ((with_reducible refine gate_callee (f := 28) rfl ?_); refine gl_ 20 Tryz.func28 (impl_Stat.calls k _ _ l0_0 a0_1 t333 t336 t337 t338 t339 t342 t345 t348 _ (kC HR0_0) HC0_0.out A4.out) ?_; rintro e w12 ⟨v340, v343, v346, rfl, ho0, ho1, ho2, hb⟩; refine ⟨_, rfl, ?_⟩; have HO341 := Aside0.mk (Kd.R_lower ho0 (below_size oB)); have HO344 := Aside0.mk (Kd.R_lower ho1 (below_size oB)); have HO347 := Aside0.mk (Kd.R_lower ho2 (below_size oB)); replace BK331 := kb_ BK331 hb; replace BK332 := kb_ BK332 hb; replace HB := Aside0.mk (below_step oB hb); (try clear ho1); (try clear ho2)) | ((with_reducible refine gate_dst (N := 9) rfl ?_); refine bx_ 9 #[.int .i64 0, .int .i64 0, .int .i64 0, .slice none 0 0, .slice none 0 0, .slice none 0 0] 51 ?_; intro gb349 hg w13 hbox hb; have BK349 := Aside0.mk (hbox); have GW349 := gs_ hg; have NB331_349 := nl_ hg BK331; have NB349_331 := nr_ hg BK331; have NB332_349 := nl_ hg BK332; have NB349_332 := nr_ hg BK332; replace HO341 := kr_ HO341 hb; replace HO344 := kr_ HO344 hb; replace HO347 := kr_ HO347 hb; replace BK331 := kb_ BK331 hb; replace BK332 := kb_ BK332 hb; replace HB := Aside0.mk (below_step oB hb); clear hb hbox hg; have hnb14 := NB349_331.out; have hnc14 := NB331_349.out; have hnb15 := NB349_332.out; have hnc15 := NB332_349.out; obtain ⟨⟨_, _, _, _, _, _⟩, _, _, _, _, _, _⟩ := z6 BK349; obtain ⟨Ao17, co17, eo17⟩ := Kd.R_slice HO341.out; subst eo17; obtain ⟨Ao18, co18, eo18⟩ := Kd.R_slice HO344.out; subst eo18; obtain ⟨Ao19, co19, eo19⟩ := Kd.R_slice HO347.out; subst eo19; obtain ⟨⟨_, _, _, _, _, _, _⟩, _, _, _, _, _, _, _⟩ := z7 BK332))
   refine bodyPost_ret (results_ct rfl _ _ gb332 84 #[.int .i64 t336, .int .i64 t337, .int .i64 t338, .slice Ao17 t339.length co17, .slice Ao18 t342.length co18, .slice Ao19 t345.length co19, .string t334] (0, 0) _ rfl (oP BK332) Tryz.underlying84 rfl (by kernel_rfl)) rfl ?_
   exact ⟨_, _, _, oE, by (with_reducible repeat (first | apply Kd.R_alloc | apply Kd.R_drewN | apply Kd.R_drew)); exact Kd.R_mono (Kd.R_far (p := ⟨gb332, 6, none⟩) (Kd.R_far (p := ⟨gb332, 5, none⟩) (Kd.R_far (p := ⟨gb332, 4, none⟩) (Kd.R_far (p := ⟨gb332, 3, none⟩) (Kd.R_far (p := ⟨gb332, 2, none⟩) (Kd.R_far (p := ⟨gb332, 1, none⟩) (Kd.R_far (p := ⟨gb332, 0, none⟩) (Kd.R_far (p := ⟨gb349, 5, none⟩) (Kd.R_far (p := ⟨gb349, 4, none⟩) (Kd.R_far (p := ⟨gb349, 3, none⟩) (Kd.R_far (p := ⟨gb349, 2, none⟩) (Kd.R_far (p := ⟨gb349, 1, none⟩) (Kd.R_far (p := ⟨gb349, 0, none⟩) (Kd.R_types (Kd.R_types HO341.out BK349.out (by decide)) BK332.out (by decide)) (fun _ hk => hk.1.2) (.int .i64 t336)) (fun _ hk => hk.1.2) (.int .i64 t337)) (fun _ hk => hk.1.2) (.int .i64 t338)) (fun _ hk => hk.1.2) (.slice Ao17 t339.length co17)) (fun _ hk => hk.1.2) (.slice Ao18 t342.length co18)) (fun _ hk => hk.1.2) (.slice Ao19 t345.length co19)) (fun _ hk => hk.2) (.int .i64 t336)) (fun _ hk => hk.2) (.int .i64 t337)) (fun _ hk => hk.2) (.int .i64 t338)) (fun _ hk => hk.2) (.slice Ao17 t339.length co17)) (fun _ hk => hk.2) (.slice Ao18 t342.length co18)) (fun _ hk => hk.2) (.slice Ao19 t345.length co19)) (fun _ hk => hk.2) (.string t334)) (fun _ hk => trivial), by (with_reducible repeat (first | apply Kd.R_alloc | apply Kd.R_drewN | apply Kd.R_drew)); exact Kd.R_mono (Kd.R_far (p := ⟨gb332, 6, none⟩) (Kd.R_far (p := ⟨gb332, 5, none⟩) (Kd.R_far (p := ⟨gb332, 4, none⟩) (Kd.R_far (p := ⟨gb332, 3, none⟩) (Kd.R_far (p := ⟨gb332, 2, none⟩) (Kd.R_far (p := ⟨gb332, 1, none⟩) (Kd.R_far (p := ⟨gb332, 0, none⟩) (Kd.R_far (p := ⟨gb349, 5, none⟩) (Kd.R_far (p := ⟨gb349, 4, none⟩) (Kd.R_far (p := ⟨gb349, 3, none⟩) (Kd.R_far (p := ⟨gb349, 2, none⟩) (Kd.R_far (p := ⟨gb349, 1, none⟩) (Kd.R_far (p := ⟨gb349, 0, none⟩) (Kd.R_types (Kd.R_types HO344.out BK349.out (by decide)) BK332.out (by decide)) (fun _ hk => hk.1.2) (.int .i64 t336)) (fun _ hk => hk.1.2) (.int .i64 t337)) (fun _ hk => hk.1.2) (.int .i64 t338)) (fun _ hk => hk.1.2) (.slice Ao17 t339.length co17)) (fun _ hk => hk.1.2) (.slice Ao18 t342.length co18)) (fun _ hk => hk.1.2) (.slice Ao19 t345.length co19)) (fun _ hk => hk.2) (.int .i64 t336)) (fun _ hk => hk.2) (.int .i64 t337)) (fun _ hk => hk.2) (.int .i64 t338)) (fun _ hk => hk.2) (.slice Ao17 t339.length co17)) (fun _ hk => hk.2) (.slice Ao18 t342.length co18)) (fun _ hk => hk.2) (.slice Ao19 t345.length co19)) (fun _ hk => hk.2) (.string t334)) (fun _ hk => trivial), by (with_reducible repeat (first | apply Kd.R_alloc | apply Kd.R_drewN | apply Kd.R_drew)); exact Kd.R_mono (Kd.R_far (p := ⟨gb332, 6, none⟩) (Kd.R_far (p := ⟨gb332, 5, none⟩) (Kd.R_far (p := ⟨gb332, 4, none⟩) (Kd.R_far (p := ⟨gb332, 3, none⟩) (Kd.R_far (p := ⟨gb332, 2, none⟩) (Kd.R_far (p := ⟨gb332, 1, none⟩) (Kd.R_far (p := ⟨gb332, 0, none⟩) (Kd.R_far (p := ⟨gb349, 5, none⟩) (Kd.R_far (p := ⟨gb349, 4, none⟩) (Kd.R_far (p := ⟨gb349, 3, none⟩) (Kd.R_far (p := ⟨gb349, 2, none⟩) (Kd.R_far (p := ⟨gb349, 1, none⟩) (Kd.R_far (p := ⟨gb349, 0, none⟩) (Kd.R_types (Kd.R_types HO347.out BK349.out (by decide)) BK332.out (by decide)) (fun _ hk => hk.1.2) (.int .i64 t336)) (fun _ hk => hk.1.2) (.int .i64 t337)) (fun _ hk => hk.1.2) (.int .i64 t338)) (fun _ hk => hk.1.2) (.slice Ao17 t339.length co17)) (fun _ hk => hk.1.2) (.slice Ao18 t342.length co18)) (fun _ hk => hk.1.2) (.slice Ao19 t345.length co19)) (fun _ hk => hk.2) (.int .i64 t336)) (fun _ hk => hk.2) (.int .i64 t337)) (fun _ hk => hk.2) (.int .i64 t338)) (fun _ hk => hk.2) (.slice Ao17 t339.length co17)) (fun _ hk => hk.2) (.slice Ao18 t342.length co18)) (fun _ hk => hk.2) (.slice Ao19 t345.length co19)) (fun _ hk => hk.2) (.string t334)) (fun _ hk => trivial), oB⟩
  ·rw [if_neg c6] at H
   have c6b0 : (t337 == 2) = false := beq_eq_false_iff_ne.mpr c6
   have c6b1 : (t337 != 2) = true := bne_iff_ne.mpr c6
   simp only [Option.some.injEq, Prod.mk.injEq] at H
   obtain ⟨rfl, rfl, rfl, rfl, rfl, rfl, rfl, rfl⟩ := H
   go_enter Tryz.func57, Tryz.ntmps57
   go_wp2_with (first | ((with_reducible refine gate_dst (N := 2) rfl ?_); refine bx_ 2 #[.slice A0_0 l0_0.length c0_0, .int .i64 a0_1] 26 ?_; intro gb331 hg w21 hbox hb; have BK331 := Aside0.mk (hbox); have GW331 := gs_ hg; replace HB := Aside0.mk (below_step oB hb); clear hb hbox hg) | ((with_reducible refine gate_dst (N := 4) rfl ?_); refine bx_ 4 #[.int .i64 0, .int .i64 0, .int .i64 0, .slice none 0 0, .slice none 0 0, .slice none 0 0, .string (⟨#[]⟩ : ByteArray)] 84 ?_; intro gb332 hg w22 hbox hb; have BK332 := Aside0.mk (hbox); have GW332 := gs_ hg; have NB331_332 := nl_ hg BK331; have NB332_331 := nr_ hg BK331; replace BK331 := kb_ BK331 hb; replace HB := Aside0.mk (below_step oB hb); clear hb hbox hg) | ((with_reducible refine gate_callee (f := 78) rfl ?_); refine gl_ 13 Tryz.func78 (impl_ParentOf.calls k a1 t333 t334 t335 _ A3.out) ?_; rintro e w23 ⟨rfl, hb⟩; refine ⟨_, rfl, ?_⟩; replace BK331 := kb_ BK331 hb; replace BK332 := kb_ BK332 hb; replace HB := Aside0.mk (below_step oB hb); have hnb24 := NB331_332.out; have hnc24 := NB332_331.out; obtain ⟨⟨_, _⟩, _, _⟩ := z2 BK331) | ((with_reducible refine gate_callee (f := 28) rfl ?_); refine gl_ 20 Tryz.func28 (impl_Stat.calls k _ _ l0_0 a0_1 t333 t336 t337 t338 t339 t342 t345 t348 _ (kC HR0_0) HC0_0.out A4.out) ?_; rintro e w26 ⟨v340, v343, v346, rfl, ho0, ho1, ho2, hb⟩; refine ⟨_, rfl, ?_⟩; have HO341 := Aside0.mk (Kd.R_lower ho0 (below_size oB)); have HO344 := Aside0.mk (Kd.R_lower ho1 (below_size oB)); have HO347 := Aside0.mk (Kd.R_lower ho2 (below_size oB)); replace BK331 := kb_ BK331 hb; replace BK332 := kb_ BK332 hb; replace HB := Aside0.mk (below_step oB hb); (try clear ho1); (try clear ho2)) | ((with_reducible refine gate_dst (N := 9) rfl ?_); refine bx_ 9 #[.int .i64 0, .int .i64 0, .int .i64 0, .slice none 0 0, .slice none 0 0, .slice none 0 0] 51 ?_; intro gb349 hg w27 hbox hb; have BK349 := Aside0.mk (hbox); have GW349 := gs_ hg; have NB331_349 := nl_ hg BK331; have NB349_331 := nr_ hg BK331; have NB332_349 := nl_ hg BK332; have NB349_332 := nr_ hg BK332; replace HO341 := kr_ HO341 hb; replace HO344 := kr_ HO344 hb; replace HO347 := kr_ HO347 hb; replace BK331 := kb_ BK331 hb; replace BK332 := kb_ BK332 hb; replace HB := Aside0.mk (below_step oB hb); clear hb hbox hg; have hnb28 := NB349_331.out; have hnc28 := NB331_349.out; have hnb29 := NB349_332.out; have hnc29 := NB332_349.out; obtain ⟨⟨_, _, _, _, _, _⟩, _, _, _, _, _, _⟩ := z6 BK349; obtain ⟨Ao31, co31, eo31⟩ := Kd.R_slice HO341.out; subst eo31; obtain ⟨Ao32, co32, eo32⟩ := Kd.R_slice HO344.out; subst eo32; obtain ⟨Ao33, co33, eo33⟩ := Kd.R_slice HO347.out; subst eo33; obtain ⟨⟨_, _, _, _, _, _, _⟩, _, _, _, _, _, _, _⟩ := z7 BK332))
   refine bodyPost_ret (results_ct rfl _ _ gb332 84 #[.int .i64 0, .int .i64 0, .int .i64 0, .slice none 0 0, .slice none 0 0, .slice none 0 0, .string (⟨#[]⟩ : ByteArray)] (0, 0) _ rfl (oP BK332) Tryz.underlying84 rfl (by kernel_rfl)) rfl ?_
   exact ⟨_, _, _, oE, by first | exact Kd.R_nil _ _ _ _ _ | exact Kd.N_nil _ _ _ _ _ | exact Kd.V_nil _ _ _ _ _ | exact Kd.Q_nil _ _ _ _ _ | exact Kd.S_nil _ _ _ _ _, by first | exact Kd.R_nil _ _ _ _ _ | exact Kd.N_nil _ _ _ _ _ | exact Kd.V_nil _ _ _ _ _ | exact Kd.Q_nil _ _ _ _ _ | exact Kd.S_nil _ _ _ _ _, by first | exact Kd.R_nil _ _ _ _ _ | exact Kd.N_nil _ _ _ _ _ | exact Kd.V_nil _ _ _ _ _ | exact Kd.Q_nil _ _ _ _ _ | exact Kd.S_nil _ _ _ _ _, oB⟩
 ·rw [if_neg c5] at H
  have c5b0 : (t348 == 0) = false := beq_eq_false_iff_ne.mpr c5
  have c5b1 : (t348 != 0) = true := bne_iff_ne.mpr c5
  simp only [Option.some.injEq, Prod.mk.injEq] at H
  obtain ⟨rfl, rfl, rfl, rfl, rfl, rfl, rfl, rfl⟩ := H
  go_enter Tryz.func57, Tryz.ntmps57
  go_wp2_with (first | ((with_reducible refine gate_dst (N := 2) rfl ?_); refine bx_ 2 #[.slice A0_0 l0_0.length c0_0, .int .i64 a0_1] 26 ?_; intro gb331 hg w35 hbox hb; have BK331 := Aside0.mk (hbox); have GW331 := gs_ hg; replace HB := Aside0.mk (below_step oB hb); clear hb hbox hg) | ((with_reducible refine gate_dst (N := 4) rfl ?_); refine bx_ 4 #[.int .i64 0, .int .i64 0, .int .i64 0, .slice none 0 0, .slice none 0 0, .slice none 0 0, .string (⟨#[]⟩ : ByteArray)] 84 ?_; intro gb332 hg w36 hbox hb; have BK332 := Aside0.mk (hbox); have GW332 := gs_ hg; have NB331_332 := nl_ hg BK331; have NB332_331 := nr_ hg BK331; replace BK331 := kb_ BK331 hb; replace HB := Aside0.mk (below_step oB hb); clear hb hbox hg) | ((with_reducible refine gate_callee (f := 78) rfl ?_); refine gl_ 13 Tryz.func78 (impl_ParentOf.calls k a1 t333 t334 t335 _ A3.out) ?_; rintro e w37 ⟨rfl, hb⟩; refine ⟨_, rfl, ?_⟩; replace BK331 := kb_ BK331 hb; replace BK332 := kb_ BK332 hb; replace HB := Aside0.mk (below_step oB hb); have hnb38 := NB331_332.out; have hnc38 := NB332_331.out; obtain ⟨⟨_, _⟩, _, _⟩ := z2 BK331) | ((with_reducible refine gate_callee (f := 28) rfl ?_); refine gl_ 20 Tryz.func28 (impl_Stat.calls k _ _ l0_0 a0_1 t333 t336 t337 t338 t339 t342 t345 t348 _ (kC HR0_0) HC0_0.out A4.out) ?_; rintro e w40 ⟨v340, v343, v346, rfl, ho0, ho1, ho2, hb⟩; refine ⟨_, rfl, ?_⟩; have HO341 := Aside0.mk (Kd.R_lower ho0 (below_size oB)); have HO344 := Aside0.mk (Kd.R_lower ho1 (below_size oB)); have HO347 := Aside0.mk (Kd.R_lower ho2 (below_size oB)); replace BK331 := kb_ BK331 hb; replace BK332 := kb_ BK332 hb; replace HB := Aside0.mk (below_step oB hb); (try clear ho1); (try clear ho2)) | ((with_reducible refine gate_dst (N := 9) rfl ?_); refine bx_ 9 #[.int .i64 0, .int .i64 0, .int .i64 0, .slice none 0 0, .slice none 0 0, .slice none 0 0] 51 ?_; intro gb349 hg w41 hbox hb; have BK349 := Aside0.mk (hbox); have GW349 := gs_ hg; have NB331_349 := nl_ hg BK331; have NB349_331 := nr_ hg BK331; have NB332_349 := nl_ hg BK332; have NB349_332 := nr_ hg BK332; replace HO341 := kr_ HO341 hb; replace HO344 := kr_ HO344 hb; replace HO347 := kr_ HO347 hb; replace BK331 := kb_ BK331 hb; replace BK332 := kb_ BK332 hb; replace HB := Aside0.mk (below_step oB hb); clear hb hbox hg; have hnb42 := NB349_331.out; have hnc42 := NB331_349.out; have hnb43 := NB349_332.out; have hnc43 := NB332_349.out; obtain ⟨⟨_, _, _, _, _, _⟩, _, _, _, _, _, _⟩ := z6 BK349; obtain ⟨Ao45, co45, eo45⟩ := Kd.R_slice HO341.out; subst eo45; obtain ⟨Ao46, co46, eo46⟩ := Kd.R_slice HO344.out; subst eo46; obtain ⟨Ao47, co47, eo47⟩ := Kd.R_slice HO347.out; subst eo47; obtain ⟨⟨_, _, _, _, _, _, _⟩, _, _, _, _, _, _, _⟩ := z7 BK332))
  refine bodyPost_ret (results_ct rfl _ _ gb332 84 #[.int .i64 0, .int .i64 0, .int .i64 0, .slice none 0 0, .slice none 0 0, .slice none 0 0, .string (⟨#[]⟩ : ByteArray)] (0, 0) _ rfl (oP BK332) Tryz.underlying84 rfl (by kernel_rfl)) rfl ?_
  exact ⟨_, _, _, oE, by first | exact Kd.R_nil _ _ _ _ _ | exact Kd.N_nil _ _ _ _ _ | exact Kd.V_nil _ _ _ _ _ | exact Kd.Q_nil _ _ _ _ _ | exact Kd.S_nil _ _ _ _ _, by first | exact Kd.R_nil _ _ _ _ _ | exact Kd.N_nil _ _ _ _ _ | exact Kd.V_nil _ _ _ _ _ | exact Kd.Q_nil _ _ _ _ _ | exact Kd.S_nil _ _ _ _ _, by first | exact Kd.R_nil _ _ _ _ _ | exact Kd.N_nil _ _ _ _ _ | exact Kd.V_nil _ _ _ _ _ | exact Kd.Q_nil _ _ _ _ _ | exact Kd.S_nil _ _ _ _ _, oB⟩

-- NOT PRINTED: function 79 (slices_IndexFunc_Ent)

-- NOT PRINTED: function 111 (impl_Ent_111)

-- NOT PRINTED: function 150 (slices_Reverse_Ent)

-- NOT PRINTED: function 135 (impl_Ent_135)

-- NOT PRINTED: function 112 (impl_Ent_112)

end Go.Proofs.YtkcfmbggdkkfeaaGreatDoor.P
