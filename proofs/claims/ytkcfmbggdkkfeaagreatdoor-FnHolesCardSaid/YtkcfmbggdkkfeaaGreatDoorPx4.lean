-- By this session's own program (wip/myprint.py) out of the translation; Lean checks it.
import Derived.Test.YtkcfmbggdkkfeaaGreatDoorPx0
import Derived.Test.YtkcfmbggdkkfeaaGreatDoorPx1
import Derived.Test.YtkcfmbggdkkfeaaGreatDoorPx3
namespace Go.Proofs.YtkcfmbggdkkfeaaGreatDoor.P
open Go.RowKit Go.Proofs.YtkcfmbggdkkfeaaGreatDoorW.PrintWords Go.Proofs.YtkcfmbggdkkfeaaGreatDoorW.PrintLast Go.Proofs.YtkcfmbggdkkfeaaGreatDoorW.PrintMore
attribute [local go_sem] max2_int min2_int max_two min_two max_three min_three max_four min_four   -- for this text's walks alone
set_option linter.unusedVariables false
set_option linter.unusedSimpArgs false

/-! ### impl_TreeOk: function 17 -/
mutual
def impl_TreeOk.j0 : Nat → Bool → List (S51) → Int → Option (Bool)
 | 0, _, _, _ => none
 | k + 1, x18, x257000, x257001 => if x18 = true then (some false) else (impl_TreeOk.l0 k x257000 (x257000.length : Int) 0 x257000 x257001)
def impl_TreeOk.l0 : Nat → List (S51) → Int → Int → List (S51) → Int → Option (Bool)
 | 0, _, _, _, _, _ => none
 | k + 1, x20, x21, x22, x257000, x257001 => if x22 < x21 then (if 0 ≤ x22 then (if x22 < (x20.length : Int) then ((impl_LinksOf.f k x257000 x257001 ((rd_T51 x20 x22).f0)).bind fun t263 => (if ((rd_T51 x20 x22).f2) = t263 then (impl_TreeOk.l1 k x20 x21 x22 ((rd_T51 x20 x22).f4) (((rd_T51 x20 x22).f4).length : Int) 0 x257000 x257001) else (some false))) else (none)) else (none)) else (some true)
def impl_TreeOk.l1 : Nat → List (S51) → Int → Int → List (S65) → Int → Int → List (S51) → Int → Option (Bool)
 | 0, _, _, _, _, _, _, _, _ => none
 | k + 1, x20, x21, x22, x34, x35, x36, x257000, x257001 => if x36 < x35 then (if 0 ≤ x36 then (if x36 < (x34.length : Int) then ((impl_placeOf.f k x257000 x257001 ((rd_T65 x34 x36).f1)).bind fun t266 => (if t266 < 0 then (some false) else (impl_TreeOk.l1 k x20 x21 x22 x34 x35 (wrap64 (x36 + 1)) x257000 x257001))) else (none)) else (none)) else (impl_TreeOk.l0 k x20 x21 (wrap64 (x22 + 1)) x257000 x257001)
end
def impl_TreeOk.f (k : Nat) (l0_0 : List (S51)) (a0_1 : Int) : Option (Bool) := (impl_TabOk.f k l0_0 a0_1).bind fun t257 => (if t257 = true then ((impl_Reached.f k l0_0 a0_1).bind fun t258 => (impl_TreeOk.j0 k ((t258.length : Int) != (l0_0.length : Int)) l0_0 a0_1)) else (impl_TreeOk.j0 k true l0_0 a0_1))
def impl_TreeOk.T1 : Bool × List (List Nat × List Nat) := (true, [([], []), ([0], [0]), ([1], [1]), ([2, 1], [2]), ([3], [3]), ([4, 3, 3], [3, 4]), ([5, 3], [3, 5]), ([3], [3]), ([7, 3], [3, 7]), ([8, 3], [3, 8]), ([6, 9, 3], [3, 6, 9]), ([3, 10], [3, 10])])
def impl_TreeOk.B1 : List Nat := [0, 1, 3, 7, 15, 31, 63, 15, 143, 399, 1023, 2047]
theorem impl_TreeOk.tab1 : rtab .any (opsOf Tryz.f17 1) = impl_TreeOk.T1 := by kernel_rfl
theorem impl_TreeOk.bits1 : waitsOk impl_TreeOk.T1.2 impl_TreeOk.B1 = true := by kernel_rfl
set_option maxHeartbeats 8000000 in
set_option maxRecDepth 100000 in
theorem impl_TreeOk.calls (k : Nat) (A0_0 : Option Addr) (c0_0 : Nat) (l0_0 : List (S51)) (a0_1 : Int) (r : Bool) (w : World) (hr0_0 : Kd.C k51 w A0_0 l0_0.length l0_0) (hc0_0 : l0_0.length ≤ c0_0) (h : impl_TreeOk.f k l0_0 a0_1 = some r) :
  Calls Tryz.prog 17 #[.agg #[.slice A0_0 l0_0.length c0_0, .int .i64 a0_1]] w fun e w' => e = .returned (.bool r) ∧ Below w.heap.size w w' := by
 have hu26 := Tryz.underlying26
 have hu51 := Tryz.underlying51
 have hu65 := Tryz.underlying65
 have HR0_0 := Aside0.mk hr0_0
 have HC0_0 := Aside0.mk hc0_0
 clear hr0_0 hc0_0
 have HB := Aside0.mk (Below.refl w.heap.size w)
 unfold impl_TreeOk.f at h
 have H := h
 clear h
 have HC2 := Aside0.mk H
 clear H
 go_enter Tryz.func17, Tryz.ntmps17
 go_upto_region 1 with (first | ((with_reducible refine gate_dst (N := 1) rfl ?_); (try (refine gate_guard (by rfl) ?_; dsimp only)); refine bx_ 1 #[.slice A0_0 l0_0.length c0_0, .int .i64 a0_1] 26 ?_; intro gb256 hg w3 hbox hb; have BK256 := Aside0.mk (hbox); have GW256 := gs_ hg; replace HB := Aside0.mk (below_step oB hb); clear hb hbox hg))
 (try simp only [Act.put, List.setIfInBounds_toArray, List.set_cons_zero, List.set_cons_succ])
 go_cut [18] (fun v18 wc => ∃ (kq : Nat) (x18_1 : Bool), v18 = .bool x18_1 ∧ Aside0 (impl_TreeOk.j0 kq x18_1 l0_0 a0_1 = some r) ∧ Aside0 (kq ≤ k) ∧ Aside0 (wc.heap[gb256]? = some (.cells #[(.slice A0_0 l0_0.length c0_0), .int .i64 a0_1] 26 (0, 0))) ∧ Aside0 (Below w.heap.size w wc))
 case first =>
  have H := HC2.out
  clear HC2
  replace H := bA H
  obtain ⟨t257, A4, H⟩ := H
  try dsimp only at H
  replace H := itB H
  rcases H with ⟨rfl, H⟩ | ⟨rfl, H⟩
  ·replace H := bA H
   obtain ⟨t258, A6, H⟩ := H
   try dsimp only at H
   have H' := Aside0.mk H
   clear H
   try go_wp2
   replace BK256 := Aside0.mk (blk_drew BK256.out)
   replace HB := Aside0.mk (below_drew1 HB.out)
   refine st_ 12 (fun w' => w'.cell? ⟨gb256, 0, none⟩ = some (.slice A0_0 l0_0.length c0_0) ∧ w'.cell? ⟨gb256, 1, none⟩ = some (.int .i64 a0_1)) impl_TreeOk.tab1 impl_TreeOk.bits1 oH (fun hHeld HT_ HW_ => ?_)
   generalize w3.drew = w7 at BK256 HB hHeld ⊢
   refine ta_ 0 7 HT_ HW_ hHeld ?_
   refine on_ 1 8 HT_ (fun K hK => ?_)
   refine gr_ 8 Tryz.func38 (impl_TabOk.calls k _ _ l0_0 a0_1 true _ (kC HR0_0) HC0_0.out A4.out) ?_
   rintro e w8 ⟨rfl, hb⟩
   refine ⟨_, rfl, ?_⟩
   replace BK256 := kb_ BK256 hb
   replace HB := Aside0.mk (below_step oB hb)
   refine hk_ hK 8 oH (fun hHeld => ?_)
   clear hK K
   refine pu_ 2 9 HT_ ?_
   refine pu_ 3 10 HT_ ?_
   refine pu_ 7 14 HT_ ?_
   refine ta_ 4 11 HT_ HW_ hHeld ?_
   refine ta_ 8 15 HT_ HW_ hHeld ?_
   refine pu_ 9 16 HT_ ?_
   refine on_ 5 12 HT_ (fun K hK => ?_)
   refine gr_ 12 Tryz.func39 (impl_Reached.calls k _ _ l0_0 a0_1 t258 _ (kC HR0_0) HC0_0.out A6.out) ?_
   rintro e w9 ⟨v259, rfl, ho0, hb⟩
   refine ⟨_, rfl, ?_⟩
   have HO260 := Aside0.mk (Kd.R_lower ho0 (below_size oB))
   replace BK256 := kb_ BK256 hb
   replace HB := Aside0.mk (below_step oB hb)
   obtain ⟨Ao10, co10, eo10⟩ := Kd.R_slice HO260.out
   (first | subst eo10 | (injection eo10 with f1_ f2_ f3_; have f4_ := f1_.symm; have f5_ := f3_.symm; clear f1_ f2_ f3_; subst f4_; subst f5_))
   refine hk_ hK 12 oH (fun hHeld => ?_)
   clear hK K
   refine pu_ 6 13 HT_ ?_
   refine pu_ 10 17 HT_ ?_
   refine pu_ 11 18 HT_ ?_
   refine dn_ HT_ ?_
   try go_wp2
   go_meet
   case rel => exact ⟨_, (((t258.length : Int) != (l0_0.length : Int))), oS, H', ⟨by first | omega | exact Nat.le_refl _⟩, ⟨oF BK256⟩, ⟨oB⟩⟩
  ·have H' := Aside0.mk H
   clear H
   try go_wp2
   replace BK256 := Aside0.mk (blk_drew BK256.out)
   replace HB := Aside0.mk (below_drew1 HB.out)
   refine st_ 12 (fun w' => w'.cell? ⟨gb256, 0, none⟩ = some (.slice A0_0 l0_0.length c0_0) ∧ w'.cell? ⟨gb256, 1, none⟩ = some (.int .i64 a0_1)) impl_TreeOk.tab1 impl_TreeOk.bits1 oH (fun hHeld HT_ HW_ => ?_)
   generalize w3.drew = w11 at BK256 HB hHeld ⊢
   refine ta_ 0 7 HT_ HW_ hHeld ?_
   refine on_ 1 8 HT_ (fun K hK => ?_)
   refine gr_ 8 Tryz.func38 (impl_TabOk.calls k _ _ l0_0 a0_1 false _ (kC HR0_0) HC0_0.out A4.out) ?_
   rintro e w12 ⟨rfl, hb⟩
   refine ⟨_, rfl, ?_⟩
   replace BK256 := kb_ BK256 hb
   replace HB := Aside0.mk (below_step oB hb)
   refine hk_ hK 8 oH (fun hHeld => ?_)
   clear hK K
   refine pu_ 2 9 HT_ ?_
   refine pu_ 3 10 HT_ ?_
   refine pn_ 4 11 HT_ ?_
   refine pn_ 5 12 HT_ ?_
   refine pn_ 6 13 HT_ ?_
   refine pn_ 7 14 HT_ ?_
   refine pn_ 8 15 HT_ ?_
   refine pn_ 9 16 HT_ ?_
   refine pn_ 10 17 HT_ ?_
   refine pu_ 11 18 HT_ ?_
   refine dn_ HT_ ?_
   try go_wp2
   go_meet
   case rel => exact ⟨_, (true), oS, H', ⟨by first | omega | exact Nat.le_refl _⟩, ⟨oF BK256⟩, ⟨oB⟩⟩
 case rest =>
  clear HC2
  obtain ⟨kq, x18_1, rfl, HA, HJ1, BK256, HB⟩ := hcut
  cases kq with
  | zero => exact absurd HA.out (by simp [impl_TreeOk.j0])
  | succ kj1 =>
   have H := HA.out
   clear HA
   simp only [impl_TreeOk.j0] at H
   replace H := itB H
   rcases H with ⟨rfl, H⟩ | ⟨rfl, H⟩
   ·obtain rfl := Option.some.inj H
    go_wp2
    go_ret
    exact ⟨oE, oB⟩
   ·have H' := Aside0.mk H
    clear H
    obtain ⟨⟨_, _⟩, _, _⟩ := z2 BK256
    go_wp2
    go_loopg [22] kj1 (fun kq v22 w' => ∃ (x22_2 : Int), v22 = .int .i64 x22_2 ∧ Aside0 (impl_TreeOk.l0 kq l0_0 (l0_0.length : Int) x22_2 l0_0 a0_1 = some r) ∧ Aside0 (kq ≤ kj1) ∧ Aside0 (w'.heap[gb256]? = some (.cells #[(.slice A0_0 l0_0.length c0_0), .int .i64 a0_1] 26 (0, 0))) ∧ Aside0 (Below w.heap.size w w'))
    case atStart => exact ⟨(0), oS, H', ⟨Nat.le_refl _⟩, ⟨oF BK256⟩, ⟨oB⟩⟩
    case round =>
     clear H'
     obtain ⟨x22_2, rfl, HA, HK2, BK256, HB⟩ := hrel
     cases gk with
     | zero => exact absurd HA.out (by simp [impl_TreeOk.l0])
     | succ k2 =>
      have H := HA.out
      clear HA
      simp only [impl_TreeOk.l0] at H
      replace H := itD H
      rcases H with ⟨c15b0, H⟩ | ⟨c15b0, H⟩
      ·replace H := itD H
       rcases H with ⟨c16b0, H⟩ | ⟨c16b0, H⟩
       ·replace H := itD H
        rcases H with ⟨c17b0, H⟩ | ⟨c17b0, H⟩
        ·replace H := bA H
         obtain ⟨t263, A18, H⟩ := H
         try dsimp only at H
         by_cases c19 : ((rd_T51 l0_0 x22_2).f2) = t263
         ·rw [if_pos c19] at H
          have c19b0 : (((rd_T51 l0_0 x22_2).f2) == t263) = true := beq_iff_eq.mpr c19
          have c19b1 : (((rd_T51 l0_0 x22_2).f2) != t263) = false := bne_eq_false_iff_eq.mpr c19
          clear c19
          have H' := Aside0.mk H
          clear H
          have p261 : (0 ≤ (x22_2 : Int)) = True := oT
          have q261 : (x22_2 < (l0_0.length : Int)) = True := oT
          obtain ⟨ad261, A261_3, c261_3, A261_4, c261_4, A261_5, c261_5, e261, hx261_0, hx261_1, hx261_2, hx261_3, hx261_4, hx261_5, hl261_3, hi261_3, hl261_4, hi261_4, hl261_5, hi261_5⟩ := at_T51 HR0_0.out x22_2 oa oa
          cases e261
          replace hx261_0 := cB HB hx261_0
          replace hx261_1 := cB HB hx261_1
          replace hx261_2 := cB HB hx261_2
          replace hx261_3 := cB HB hx261_3
          replace hx261_4 := cB HB hx261_4
          replace hx261_5 := cB HB hx261_5
          have HR261_3 := Aside0.mk hi261_3
          have HC261_3 := Aside0.mk hl261_3
          clear hi261_3 hl261_3
          have HR261_4 := Aside0.mk hi261_4
          have HC261_4 := Aside0.mk hl261_4
          clear hi261_4 hl261_4
          have HR261_5 := Aside0.mk hi261_5
          have HC261_5 := Aside0.mk hl261_5
          clear hi261_5 hl261_5
          try go_wp2_with (first | ((with_reducible refine gate_dst (N := 4) rfl ?_); (try (refine gate_guard (by rfl) ?_; dsimp only)); refine bx_ 4 #[.int .i64 0, .int .i64 0, .int .i64 0, .slice none 0 0, .slice none 0 0, .slice none 0 0] 51 ?_; intro gb262 hg w20 hbox hb; have BK262 := Aside0.mk (hbox); have GW262 := gs_ hg; have NB256_262 := nl_ hg BK256; have NB262_256 := nr_ hg BK256; replace BK256 := kb_ BK256 hb; replace HB := Aside0.mk (below_step oB hb); clear hb hbox hg; have hnb21 := NB262_256.out; have hnc21 := NB256_262.out; obtain ⟨⟨_, _, _, _, _, _⟩, _, _, _, _, _, _⟩ := z6 BK262))
          generalize hW_ : ((((((w20.setCell ⟨gb262, 0, none⟩ (.int .i64 ((rd_T51 l0_0 x22_2).f0))).setCell ⟨gb262, 1, none⟩ (.int .i64 ((rd_T51 l0_0 x22_2).f1))).setCell ⟨gb262, 2, none⟩ (.int .i64 ((rd_T51 l0_0 x22_2).f2))).setCell ⟨gb262, 3, none⟩ (.slice A261_3 ((rd_T51 l0_0 x22_2).f3).length c261_3)).setCell ⟨gb262, 4, none⟩ (.slice A261_4 ((rd_T51 l0_0 x22_2).f4).length c261_4)).setCell ⟨gb262, 5, none⟩ (.slice A261_5 ((rd_T51 l0_0 x22_2).f5).length c261_5)) = w23
          replace BK256 := kw_ hW_ BK256
          replace BK262 := kv_ #[.int .i64 ((rd_T51 l0_0 x22_2).f0), .int .i64 ((rd_T51 l0_0 x22_2).f1), .int .i64 ((rd_T51 l0_0 x22_2).f2), .slice A261_3 ((rd_T51 l0_0 x22_2).f3).length c261_3, .slice A261_4 ((rd_T51 l0_0 x22_2).f4).length c261_4, .slice A261_5 ((rd_T51 l0_0 x22_2).f5).length c261_5] hW_ BK262
          replace HB := hw_ hW_ HB
          clear hW_
          replace BK256 := Aside0.mk (blk_drew BK256.out)
          replace BK262 := Aside0.mk (blk_drew BK262.out)
          replace HB := Aside0.mk (below_drew1 HB.out)
          refine s0_ 7 (fun w' => w'.cell? ⟨gb262, 0, none⟩ = some (.int .i64 ((rd_T51 l0_0 x22_2).f0)) ∧ w'.cell? ⟨gb262, 1, none⟩ = some (.int .i64 ((rd_T51 l0_0 x22_2).f1)) ∧ w'.cell? ⟨gb262, 2, none⟩ = some (.int .i64 ((rd_T51 l0_0 x22_2).f2)) ∧ w'.cell? ⟨gb262, 3, none⟩ = some (.slice A261_3 ((rd_T51 l0_0 x22_2).f3).length c261_3) ∧ w'.cell? ⟨gb262, 4, none⟩ = some (.slice A261_4 ((rd_T51 l0_0 x22_2).f4).length c261_4) ∧ w'.cell? ⟨gb262, 5, none⟩ = some (.slice A261_5 ((rd_T51 l0_0 x22_2).f5).length c261_5) ∧ w'.cell? ⟨gb256, 0, none⟩ = some (.slice (some ad261) l0_0.length c0_0) ∧ w'.cell? ⟨gb256, 1, none⟩ = some (.int .i64 a0_1)) oH (fun hHeld => ?_)
          generalize w23.drew = w24 at BK256 BK262 HB hHeld ⊢
          refine p0_ 0 26 ?_
          refine p0_ 3 29 ?_
          refine t0_ 1 27 hHeld ?_
          refine t0_ 2 28 hHeld ?_
          refine t0_ 4 30 hHeld ?_
          refine o0_ 5 31 (fun K hK => ?_)
          refine gr_ 31 Tryz.func40 (impl_LinksOf.calls k2 _ _ l0_0 a0_1 ((rd_T51 l0_0 x22_2).f0) t263 _ (kC HR0_0) HC0_0.out A18.out) ?_
          rintro e w25 ⟨rfl, hb⟩
          refine ⟨_, rfl, ?_⟩
          replace BK256 := kb_ BK256 hb
          replace BK262 := kb_ BK262 hb
          replace HB := Aside0.mk (below_step oB hb)
          refine hk_ hK 31 oH (fun hHeld => ?_)
          clear hK K
          refine p0_ 6 32 ?_
          refine done_ (by kernel_rfl) ?_
          obtain ⟨⟨_, _, _, _, _, _⟩, _, _, _, _, _, _⟩ := z6 BK262
          try go_wp2
          go_loopg [36] k2 (fun kq v36 w' => ∃ (x36_3 : Int), v36 = .int .i64 x36_3 ∧ Aside0 (impl_TreeOk.l1 kq l0_0 (l0_0.length : Int) x22_2 ((rd_T51 l0_0 x22_2).f4) (((rd_T51 l0_0 x22_2).f4).length : Int) x36_3 l0_0 a0_1 = some r) ∧ Aside0 (kq ≤ k2) ∧ Aside0 (w'.heap[gb256]? = some (.cells #[(.slice (some ad261) l0_0.length c0_0), .int .i64 a0_1] 26 (0, 0))) ∧ Aside0 (w'.heap[gb262]? = some (.cells #[.int .i64 ((rd_T51 l0_0 x22_2).f0), .int .i64 ((rd_T51 l0_0 x22_2).f1), .int .i64 ((rd_T51 l0_0 x22_2).f2), (.slice A261_3 ((rd_T51 l0_0 x22_2).f3).length c261_3), (.slice A261_4 ((rd_T51 l0_0 x22_2).f4).length c261_4), (.slice A261_5 ((rd_T51 l0_0 x22_2).f5).length c261_5)] 51 (0, 0))) ∧ Aside0 (Below w.heap.size w w'))
          case atStart => exact ⟨(0), oS, H', ⟨Nat.le_refl _⟩, ⟨oF BK256⟩, ⟨oF BK262⟩, ⟨oB⟩⟩
          case round =>
           clear H'
           try clear c15b0
           try clear c16b0
           try clear c17b0
           try clear c19
           obtain ⟨x36_3, rfl, HA, HK3, BK256, BK262, HB⟩ := hrel
           cases gk with
           | zero => exact absurd HA.out (by simp [impl_TreeOk.l1])
           | succ k3 =>
            have H := HA.out
            clear HA
            simp only [impl_TreeOk.l1] at H
            replace H := itD H
            rcases H with ⟨c27b0, H⟩ | ⟨c27b0, H⟩
            ·replace H := itD H
             rcases H with ⟨c28b0, H⟩ | ⟨c28b0, H⟩
             ·replace H := itD H
              rcases H with ⟨c29b0, H⟩ | ⟨c29b0, H⟩
              ·replace H := bA H
               obtain ⟨t266, A30, H⟩ := H
               try dsimp only at H
               replace H := itD H
               rcases H with ⟨c31b0, H⟩ | ⟨c31b0, H⟩
               ·obtain rfl := Option.some.inj H
                have p264 : (0 ≤ (x36_3 : Int)) = True := oT
                have q264 : (x36_3 < (((rd_T51 l0_0 x22_2).f4).length : Int)) = True := oT
                obtain ⟨ad264, e264, hx264_0, hx264_1⟩ := at_T65 HR261_4.out x36_3 oa oa
                cases e264
                replace hx264_0 := cB HB hx264_0
                replace hx264_1 := cB HB hx264_1
                go_wp2_with (first | ((with_reducible refine gate_dst (N := 6) rfl ?_); (try (refine gate_guard (by rfl) ?_; dsimp only)); refine bx_ 6 #[.string (⟨#[]⟩ : ByteArray), .int .i64 0] 65 ?_; intro gb265 hg w32 hbox hb; have BK265 := Aside0.mk (hbox); have GW265 := gs_ hg; have NB256_265 := nl_ hg BK256; have NB265_256 := nr_ hg BK256; have NB262_265 := nl_ hg BK262; have NB265_262 := nr_ hg BK262; replace BK256 := kb_ BK256 hb; replace BK262 := kb_ BK262 hb; replace HB := Aside0.mk (below_step oB hb); clear hb hbox hg; have hnb33 := NB265_256.out; have hnc33 := NB256_265.out; have hnb34 := NB265_262.out; have hnc34 := NB262_265.out; obtain ⟨⟨_, _⟩, _, _⟩ := z2 BK265; have hnb36 := NB256_262.out; have hnc36 := NB262_256.out; obtain ⟨⟨_, _⟩, _, _⟩ := z2 BK256) | ((with_reducible refine gate_callee (f := 41) rfl ?_); refine gl_ 43 Tryz.func41 (impl_placeOf.calls k3 _ _ l0_0 a0_1 ((rd_T65 ((rd_T51 l0_0 x22_2).f4) x36_3).f1) t266 _ ?side1 HC0_0.out A30.out) ?_; (case side1 => exact Kd.C_below HR0_0.out oB); rintro e w38 ⟨rfl, hb⟩; refine ⟨_, rfl, ?_⟩; replace BK256 := kb_ BK256 hb; replace BK262 := kb_ BK262 hb; replace BK265 := kp_ #[.string ((rd_T65 ((rd_T51 l0_0 x22_2).f4) x36_3).f0), .int .i64 ((rd_T65 ((rd_T51 l0_0 x22_2).f4) x36_3).f1)] BK265 hb; replace HB := Aside0.mk (below_step oB hb)))
                go_ret
                exact ⟨oE, oB⟩
               ·have H' := Aside0.mk H
                clear H
                have p264 : (0 ≤ (x36_3 : Int)) = True := oT
                have q264 : (x36_3 < (((rd_T51 l0_0 x22_2).f4).length : Int)) = True := oT
                obtain ⟨ad264, e264, hx264_0, hx264_1⟩ := at_T65 HR261_4.out x36_3 oa oa
                cases e264
                replace hx264_0 := cB HB hx264_0
                replace hx264_1 := cB HB hx264_1
                go_wp2_with (first | ((with_reducible refine gate_dst (N := 6) rfl ?_); (try (refine gate_guard (by rfl) ?_; dsimp only)); refine bx_ 6 #[.string (⟨#[]⟩ : ByteArray), .int .i64 0] 65 ?_; intro gb265 hg w39 hbox hb; have BK265 := Aside0.mk (hbox); have GW265 := gs_ hg; have NB256_265 := nl_ hg BK256; have NB265_256 := nr_ hg BK256; have NB262_265 := nl_ hg BK262; have NB265_262 := nr_ hg BK262; replace BK256 := kb_ BK256 hb; replace BK262 := kb_ BK262 hb; replace HB := Aside0.mk (below_step oB hb); clear hb hbox hg; have hnb40 := NB265_256.out; have hnc40 := NB256_265.out; have hnb41 := NB265_262.out; have hnc41 := NB262_265.out; obtain ⟨⟨_, _⟩, _, _⟩ := z2 BK265; have hnb43 := NB256_262.out; have hnc43 := NB262_256.out; obtain ⟨⟨_, _⟩, _, _⟩ := z2 BK256) | ((with_reducible refine gate_callee (f := 41) rfl ?_); refine gl_ 43 Tryz.func41 (impl_placeOf.calls k3 _ _ l0_0 a0_1 ((rd_T65 ((rd_T51 l0_0 x22_2).f4) x36_3).f1) t266 _ ?side1 HC0_0.out A30.out) ?_; (case side1 => exact Kd.C_below HR0_0.out oB); rintro e w45 ⟨rfl, hb⟩; refine ⟨_, rfl, ?_⟩; replace BK256 := kb_ BK256 hb; replace BK262 := kb_ BK262 hb; replace BK265 := kp_ #[.string ((rd_T65 ((rd_T51 l0_0 x22_2).f4) x36_3).f0), .int .i64 ((rd_T65 ((rd_T51 l0_0 x22_2).f4) x36_3).f1)] BK265 hb; replace HB := Aside0.mk (below_step oB hb)))
                go_roundg k3
                case measure => have := HJ1.out; have := HK2.out; have := HK3.out; omega
                case rel => exact ⟨(wrap64 (x36_3 + 1)), oS, H', ⟨by have := HJ1.out; have := HK2.out; have := HK3.out; omega⟩, ⟨oF BK256⟩, ⟨oF BK262⟩, ⟨oB⟩⟩
              ·cases H
             ·cases H
            ·have H' := Aside0.mk H
             clear H
             go_wp2
             go_roundg k3
             case measure => have := HJ1.out; have := HK2.out; have := HK3.out; omega
             case rel => exact ⟨(wrap64 (x22_2 + 1)), oS, H', ⟨by have := HJ1.out; have := HK2.out; have := HK3.out; omega⟩, ⟨oF BK256⟩, ⟨oB⟩⟩
         ·rw [if_neg c19] at H
          have c19b0 : (((rd_T51 l0_0 x22_2).f2) == t263) = false := beq_eq_false_iff_ne.mpr c19
          have c19b1 : (((rd_T51 l0_0 x22_2).f2) != t263) = true := bne_iff_ne.mpr c19
          obtain rfl := Option.some.inj H
          have p261 : (0 ≤ (x22_2 : Int)) = True := oT
          have q261 : (x22_2 < (l0_0.length : Int)) = True := oT
          obtain ⟨ad261, A261_3, c261_3, A261_4, c261_4, A261_5, c261_5, e261, hx261_0, hx261_1, hx261_2, hx261_3, hx261_4, hx261_5, hl261_3, hi261_3, hl261_4, hi261_4, hl261_5, hi261_5⟩ := at_T51 HR0_0.out x22_2 oa oa
          cases e261
          replace hx261_0 := cB HB hx261_0
          replace hx261_1 := cB HB hx261_1
          replace hx261_2 := cB HB hx261_2
          replace hx261_3 := cB HB hx261_3
          replace hx261_4 := cB HB hx261_4
          replace hx261_5 := cB HB hx261_5
          have HR261_3 := Aside0.mk hi261_3
          have HC261_3 := Aside0.mk hl261_3
          clear hi261_3 hl261_3
          have HR261_4 := Aside0.mk hi261_4
          have HC261_4 := Aside0.mk hl261_4
          clear hi261_4 hl261_4
          have HR261_5 := Aside0.mk hi261_5
          have HC261_5 := Aside0.mk hl261_5
          clear hi261_5 hl261_5
          try go_wp2_with (first | ((with_reducible refine gate_dst (N := 4) rfl ?_); (try (refine gate_guard (by rfl) ?_; dsimp only)); refine bx_ 4 #[.int .i64 0, .int .i64 0, .int .i64 0, .slice none 0 0, .slice none 0 0, .slice none 0 0] 51 ?_; intro gb262 hg w46 hbox hb; have BK262 := Aside0.mk (hbox); have GW262 := gs_ hg; have NB256_262 := nl_ hg BK256; have NB262_256 := nr_ hg BK256; replace BK256 := kb_ BK256 hb; replace HB := Aside0.mk (below_step oB hb); clear hb hbox hg; have hnb47 := NB262_256.out; have hnc47 := NB256_262.out; obtain ⟨⟨_, _, _, _, _, _⟩, _, _, _, _, _, _⟩ := z6 BK262))
          generalize hW_ : ((((((w46.setCell ⟨gb262, 0, none⟩ (.int .i64 ((rd_T51 l0_0 x22_2).f0))).setCell ⟨gb262, 1, none⟩ (.int .i64 ((rd_T51 l0_0 x22_2).f1))).setCell ⟨gb262, 2, none⟩ (.int .i64 ((rd_T51 l0_0 x22_2).f2))).setCell ⟨gb262, 3, none⟩ (.slice A261_3 ((rd_T51 l0_0 x22_2).f3).length c261_3)).setCell ⟨gb262, 4, none⟩ (.slice A261_4 ((rd_T51 l0_0 x22_2).f4).length c261_4)).setCell ⟨gb262, 5, none⟩ (.slice A261_5 ((rd_T51 l0_0 x22_2).f5).length c261_5)) = w49
          replace BK256 := kw_ hW_ BK256
          replace BK262 := kv_ #[.int .i64 ((rd_T51 l0_0 x22_2).f0), .int .i64 ((rd_T51 l0_0 x22_2).f1), .int .i64 ((rd_T51 l0_0 x22_2).f2), .slice A261_3 ((rd_T51 l0_0 x22_2).f3).length c261_3, .slice A261_4 ((rd_T51 l0_0 x22_2).f4).length c261_4, .slice A261_5 ((rd_T51 l0_0 x22_2).f5).length c261_5] hW_ BK262
          replace HB := hw_ hW_ HB
          clear hW_
          replace BK256 := Aside0.mk (blk_drew BK256.out)
          replace BK262 := Aside0.mk (blk_drew BK262.out)
          replace HB := Aside0.mk (below_drew1 HB.out)
          refine s0_ 7 (fun w' => w'.cell? ⟨gb262, 0, none⟩ = some (.int .i64 ((rd_T51 l0_0 x22_2).f0)) ∧ w'.cell? ⟨gb262, 1, none⟩ = some (.int .i64 ((rd_T51 l0_0 x22_2).f1)) ∧ w'.cell? ⟨gb262, 2, none⟩ = some (.int .i64 ((rd_T51 l0_0 x22_2).f2)) ∧ w'.cell? ⟨gb262, 3, none⟩ = some (.slice A261_3 ((rd_T51 l0_0 x22_2).f3).length c261_3) ∧ w'.cell? ⟨gb262, 4, none⟩ = some (.slice A261_4 ((rd_T51 l0_0 x22_2).f4).length c261_4) ∧ w'.cell? ⟨gb262, 5, none⟩ = some (.slice A261_5 ((rd_T51 l0_0 x22_2).f5).length c261_5) ∧ w'.cell? ⟨gb256, 0, none⟩ = some (.slice (some ad261) l0_0.length c0_0) ∧ w'.cell? ⟨gb256, 1, none⟩ = some (.int .i64 a0_1)) oH (fun hHeld => ?_)
          generalize w49.drew = w50 at BK256 BK262 HB hHeld ⊢
          refine p0_ 0 26 ?_
          refine p0_ 3 29 ?_
          refine t0_ 1 27 hHeld ?_
          refine t0_ 2 28 hHeld ?_
          refine t0_ 4 30 hHeld ?_
          refine o0_ 5 31 (fun K hK => ?_)
          refine gr_ 31 Tryz.func40 (impl_LinksOf.calls k2 _ _ l0_0 a0_1 ((rd_T51 l0_0 x22_2).f0) t263 _ (kC HR0_0) HC0_0.out A18.out) ?_
          rintro e w51 ⟨rfl, hb⟩
          refine ⟨_, rfl, ?_⟩
          replace BK256 := kb_ BK256 hb
          replace BK262 := kb_ BK262 hb
          replace HB := Aside0.mk (below_step oB hb)
          refine hk_ hK 31 oH (fun hHeld => ?_)
          clear hK K
          refine p0_ 6 32 ?_
          refine done_ (by kernel_rfl) ?_
          try go_wp2
          go_ret
          exact ⟨oE, oB⟩
        ·cases H
       ·cases H
      ·obtain rfl := Option.some.inj H
       go_wp2
       go_ret
       exact ⟨oE, oB⟩

/-! ### impl_ready: function 46 -/
def impl_ready.l0 : Nat → List ByteArray → Int → Int → List (S51) → Int → Option (Bool)
 | 0, _, _, _, _, _ => none
 | k + 1, x9, x10, x11, x268000, x268001 => if x11 < x10 then (if 0 ≤ x11 then (if x11 < (x9.length : Int) then ((impl_SplitPath.f k (rdOf ByteArray.empty x9 x11)).bind fun bt269 => (if bt269.2 = true then (impl_ready.l0 k x9 x10 (wrap64 (x11 + 1)) x268000 x268001) else (some false))) else (none)) else (none)) else ((impl_TreeOk.f k x268000 x268001).bind fun t273 => (some t273))
def impl_ready.f (k : Nat) (l0_0 : List (S51)) (a0_1 : Int) (l1 : List ByteArray) : Option (Bool) := impl_ready.l0 k l1 (l1.length : Int) 0 l0_0 a0_1
set_option maxHeartbeats 8000000 in
set_option maxRecDepth 100000 in
theorem impl_ready.calls (k : Nat) (A0_0 : Option Addr) (c0_0 : Nat) (l0_0 : List (S51)) (a0_1 : Int) (A1 : Option Addr) (c1 : Nat) (l1 : List ByteArray) (r : Bool) (w : World) (hr0_0 : Kd.C k51 w A0_0 l0_0.length l0_0) (hc0_0 : l0_0.length ≤ c0_0) (hr1 : Kd.C Kd.string w A1 l1.length l1) (hc1 : l1.length ≤ c1) (h : impl_ready.f k l0_0 a0_1 l1 = some r) (hG : GOk w := by exact gk_ oB (by first | (with_reducible assumption) | assumption)) :
  Calls Tryz.prog 46 #[.agg #[.slice A0_0 l0_0.length c0_0, .int .i64 a0_1], .slice A1 l1.length c1] w fun e w' => e = .returned (.bool r) ∧ Below w.heap.size w w' := by
 have HG := Aside0.mk hG
 clear hG
 have hu26 := Tryz.underlying26
 have HR0_0 := Aside0.mk hr0_0
 have HC0_0 := Aside0.mk hc0_0
 clear hr0_0 hc0_0
 have HR1 := Aside0.mk hr1
 have HC1 := Aside0.mk hc1
 clear hr1 hc1
 have HB := Aside0.mk (Below.refl w.heap.size w)
 unfold impl_ready.f at h
 have H := h
 clear h
 have H' := Aside0.mk H
 clear H
 go_enter Tryz.func46, Tryz.ntmps46
 go_wp2_with (first | ((with_reducible refine gate_dst (N := 2) rfl ?_); refine bx_ 2 #[.slice A0_0 l0_0.length c0_0, .int .i64 a0_1] 26 ?_; intro gb267 hg w3 hbox hb; have BK267 := Aside0.mk (hbox); have GW267 := gs_ hg; replace HB := Aside0.mk (below_step oB hb); clear hb hbox hg))
 go_loopg [11] k (fun kq v11 w' => ∃ (x11_1 : Int), v11 = .int .i64 x11_1 ∧ Aside0 (impl_ready.l0 kq l1 (l1.length : Int) x11_1 l0_0 a0_1 = some r) ∧ Aside0 (kq ≤ k) ∧ Aside0 (w'.heap[gb267]? = some (.cells #[(.slice A0_0 l0_0.length c0_0), .int .i64 a0_1] 26 (0, 0))) ∧ Aside0 (Below w.heap.size w w'))
 case atStart => exact ⟨(0), oS, H', ⟨Nat.le_refl _⟩, ⟨oF BK267⟩, ⟨oB⟩⟩
 case round =>
  clear H'
  try clear c1
  obtain ⟨x11_1, rfl, HA, HK1, BK267, HB⟩ := hrel
  cases gk with
  | zero => exact absurd HA.out (by simp [impl_ready.l0])
  | succ k1 =>
   have H := HA.out
   clear HA
   simp only [impl_ready.l0] at H
   replace H := itD H
   rcases H with ⟨c4b0, H⟩ | ⟨c4b0, H⟩
   ·replace H := itD H
    rcases H with ⟨c5b0, H⟩ | ⟨c5b0, H⟩
    ·replace H := itD H
     rcases H with ⟨c6b0, H⟩ | ⟨c6b0, H⟩
     ·replace H := bA H
      obtain ⟨⟨t269, t270⟩, A7, H⟩ := H
      try dsimp only at H
      replace H := itB H
      rcases H with ⟨rfl, H⟩ | ⟨rfl, H⟩
      ·have H' := Aside0.mk H
       clear H
       have p268 : (0 ≤ (x11_1 : Int)) = True := oT
       have q268 : (x11_1 < (l1.length : Int)) = True := oT
       obtain ⟨ad268, e268, hx268_0⟩ := Kd.at_string HR1.out x11_1 oa oa
       cases e268
       replace hx268_0 := cB HB hx268_0
       go_wp2_with (first | ((with_reducible refine gate_callee (f := 16) rfl ?_); refine gl_ 17 Tryz.func16 (impl_SplitPath.calls k1 (rdOf ByteArray.empty l1 x11_1) t269 true _ A7.out) ?_; rintro e w9 ⟨v271, rfl, ho0, hb⟩; refine ⟨_, rfl, ?_⟩; have HO272 := Aside0.mk (Kd.Q_lower ho0 (below_size oB)); replace BK267 := kb_ BK267 hb; replace HB := Aside0.mk (below_step oB hb)))
       go_roundg k1
       case measure => have := HK1.out; omega
       case rel => exact ⟨(wrap64 (x11_1 + 1)), oS, H', ⟨by have := HK1.out; omega⟩, ⟨oF BK267⟩, ⟨oB⟩⟩
      ·obtain rfl := Option.some.inj H
       have p268 : (0 ≤ (x11_1 : Int)) = True := oT
       have q268 : (x11_1 < (l1.length : Int)) = True := oT
       obtain ⟨ad268, e268, hx268_0⟩ := Kd.at_string HR1.out x11_1 oa oa
       cases e268
       replace hx268_0 := cB HB hx268_0
       go_wp2_with (first | ((with_reducible refine gate_callee (f := 16) rfl ?_); refine gl_ 17 Tryz.func16 (impl_SplitPath.calls k1 (rdOf ByteArray.empty l1 x11_1) t269 false _ A7.out) ?_; rintro e w10 ⟨v271, rfl, ho0, hb⟩; refine ⟨_, rfl, ?_⟩; have HO272 := Aside0.mk (Kd.Q_lower ho0 (below_size oB)); replace BK267 := kb_ BK267 hb; replace HB := Aside0.mk (below_step oB hb)))
       go_ret
       exact ⟨oE, oB⟩
     ·cases H
    ·cases H
   ·replace H := bA H
    obtain ⟨t273, A11, H⟩ := H
    try dsimp only at H
    obtain rfl := Option.some.inj H
    obtain ⟨⟨_, _⟩, _, _⟩ := z2 BK267
    go_wp2_with (first | ((with_reducible refine gate_callee (f := 17) rfl ?_); refine gl_ 24 Tryz.func17 (impl_TreeOk.calls k1 _ _ l0_0 a0_1 t273 _ (kC HR0_0) HC0_0.out A11.out) ?_; rintro e w13 ⟨rfl, hb⟩; refine ⟨_, rfl, ?_⟩; replace BK267 := kb_ BK267 hb; replace HB := Aside0.mk (below_step oB hb)))
    go_ret
    exact ⟨oE, oB⟩

-- NOT PRINTED: function 107 (impl_Inode_107)

-- NOT PRINTED: function 146 (slices_Reverse_Inode)

-- NOT PRINTED: function 132 (impl_Inode_132)

-- NOT PRINTED: function 108 (impl_Inode_108)

/-! ### slices_Insert_Inode: function 75 -/
/-- copy of elements of several cells. -/
theorem run_copyZInode {P : Program} (w : World) (dT sT ty elem : TypeId) (b o dLen dCap : Nat) (a : Addr) (sLen sCap n : Nat) (cs : List Value)
  (hu : P.underlying dT = some (.slice elem)) (hs : (P.info? elem).map (·.size) = some 6) (hm : Nat.min sLen dLen = n) (hn : cs.length = n * 6)
  (hsrc : ∀ j v, cs[j]? = some v → w.cell? (a.add j) = some v) (hc : ∀ j, j < cs.length → (w.cell? ⟨b, o + j, none⟩).isSome = true) (hf : ∀ j, j < cs.length → w.frozen? ⟨b, o + j, none⟩ = false) (h1 : ∀ v ∈ cs, v.oneCell' = true) :
  (Builtin.copy_ #[dT, sT] ty #[.slice (some ⟨b, o, none⟩) dLen dCap, .slice (some a) sLen sCap]).run P w = .ok (goInt n) (w.setCells b o cs) := by
 have hl := run_loadCells_list (P := P) w a cs hsrc
 have hst := run_storeCells_cells (P := P) b o cs 0 w (by simpa using hc) (by simpa using hf) h1
 cases hq : P.info? elem with
 | none => simp [hq] at hs
 | some i =>
  have hi : i.size = 6 := by simpa [hq] using hs
  simp [Builtin.copy_, run_underlying hu, Builtin.lenOf, Builtin.firstCells, sizeOf, typeInfo, hq, hi, hm, ← hn, hl, hst]
theorem wpList_copyZInode {P : Program} (w : World) {ops : Array Oper} {rest : List Oper} {o : Oper} {a : Act} {Q : Exit → Act → World → Prop} (hgd : o.guard = none) (d s : Operand) (t t' : TypeId)
  (ho : o.op = .call { callee := .builtin .copy, args := #[d, s], argTypes := #[t, t'] }) (v u : Value) (hd : a.eval d = v) (hs : a.eval s = u) {v' : Value} {w' : World}
  (hr : (Builtin.copy_ #[t, t'] o.type #[v, u]).run P w = .ok v' w') (h : wpList P ops Q rest (a.put o.dst v') w') : wpList P ops Q (o :: rest) a w :=
 wpList_plain hgd fun K hK => by
  unfold Oper.wp execOp
  simp only [ho, resolve, invoke, builtin, Sem.run_bind, Sem.run_pure, Result.andThen_ok, List.map_toArray, List.map_cons, List.map_nil, hd, hs, hr]
  exact hK _ _ h
theorem step_copyZInode {P : Program} {ops : Array Oper} {o : Oper} {a : Act} {w : World} {K : Act → World → Prop} {Q : Exit → Act → World → Prop} {E : Prop}
  (hg : o.guard = none) (d x : Operand) (dT sT : TypeId) (hop : o.op = Op.call { callee := Callee.builtin Builtin.copy, args := #[d, x], argTypes := #[dT, sT] })
  (v u : Value) (hd : a.eval d = v) (hx : a.eval x = u) {v' : Value} {w' : World} (hr : (Builtin.copy_ #[dT, sT] o.type #[v, u]).run P w = .ok v' w') (hK : K (a.put o.dst v') w') :
  if Region.wanted o (yielded ops a.tmps) = true then Oper.wp P o a w K Q else E := by
 have hw : Region.wanted o (yielded ops a.tmps) = true := by simp [Region.wanted, hg]
 rw [if_pos hw]
 unfold Oper.wp
 simp [execOp, hop, resolve, invoke, builtin, hd, hx, hr, Result.andThen]
 exact hK
set_option maxHeartbeats 4000000 in
set_option maxRecDepth 100000 in
theorem insInode_shift.calls (g n c i vb : Nat) (cur : Array Value) (inner vs : List Value) (w : World) (hi : i < n) (hroom : n + 1 ≤ c) (hc63 : c ≤ 9223372036854775807) (hvb : vb ≠ g)
  (hb : w.heap[g]? = some (.cells cur 51 (0, 0))) (hcs : cur.size = c * 6) (hin : cur.toList.take (n * 6) = inner) (hv : w.heap[vb]? = some (.cells vs.toArray 51 (0, 0))) (hvl : vs.length = 6)
  (h1c : ∀ u ∈ inner, u.oneCell' = true) (h1v : ∀ u ∈ vs, u.oneCell' = true) :
  Calls Tryz.prog 75 #[.slice (some ⟨g, 0, none⟩) n c, .int .i64 i, .slice (some ⟨vb, 0, none⟩) 1 1] w fun e w' =>
   e = .returned (.slice (some ⟨g, 0, none⟩) (n + 1) c) ∧ w' = (w.drew.setCells g ((i + 1) * 6) (inner.drop (i * 6))).setCells g (i * 6) vs := by
 have hu := Tryz.underlying24
 have mixed : Tryz.prog.follows .mixedOrders = true := by kernel_rfl
 have hz1 : ¬ ((1 : Int) = 0) := by omega
 have hz2 : ¬ ((i : Int) = (n : Int)) := by omega
 have hsz : (Tryz.prog.info? 51).map (·.size) = some 6 := by kernel_rfl
 have hil : inner.length = n * 6 := by rw [← hin, List.length_take, Array.length_toList]; omega
 have hdl : (inner.drop (i * 6)).length = (n - i) * 6 := by rw [List.length_drop, hil]; omega
 have hcur : ∀ j, w.cell? ⟨g, j, none⟩ = cur[j]? := fun j => blk_cell hb j
 have hcell : ∀ j u, inner[j]? = some u → w.cell? ⟨g, j, none⟩ = some u := fun j u hj => by
  rw [hcur, ← hj, ← hin, List.getElem?_take]
  have : j < inner.length := (List.getElem?_eq_some_iff.1 hj).1
  rw [if_pos (by omega), Array.getElem?_toList]
 have hsp : ∀ j, j < (n + 1) * 6 → (w.cell? ⟨g, j, none⟩).isSome = true := fun j hj => by rw [hcur, Array.getElem?_eq_getElem (by omega)]; rfl
 have hfz : ∀ j, w.frozen? ⟨g, j, none⟩ = false := fun j => blk_frozen hb j
 have hvc : ∀ j u, vs[j]? = some u → w.cell? ⟨vb, j, none⟩ = some u := fun j u hj => by rw [blk_cell hv j, List.getElem?_toArray, hj]
 have hov : ∀ lb cb, (callFunc 107 #[.slice (some ⟨vb, 0, none⟩) 1 1, .slice (some ⟨g, (i + 1) * 6, none⟩) lb cb]).run Tryz.prog w = .ok (.value (.bool false)) w := fun lb cb => by
  rw [run_callFunc_extern Tryz.func107 (by kernel_rfl) (by kernel_rfl) (by kernel_rfl) (e := Extern.SlicesOverlaps.overlaps #[24, 24] #[4]) (by kernel_rfl),
   Lib.run_overlaps_apart w 24 4 51 Tryz.underlying24 6 Tryz.sizeOf51 ⟨vb, 0, none⟩ ⟨g, (i + 1) * 6, none⟩ 1 1 lb cb hvb 51 51 vs.length cur.size (by simp [World.shape?, hv]) (by simp [World.shape?, hb]) (by omega) (blk_frozen hv 0) (blk_frozen hv _)]
  rfl
 have hw1 : IntKind.i64.wrap ((i : Int) + (1 : Int)) = (i : Int) + (1 : Int) := by rw [IntKind.wrap_i64]; omega
 have hw2 : IntKind.i64.wrap ((n : Int) + (1 : Int)) = (n : Int) + (1 : Int) := by rw [IntKind.wrap_i64]; omega
 have hb1 : (0 : Int) ≤ (i : Int) + (1 : Int) := by omega
 have hin' : i ≤ n := by omega
 have htn : ((i : Int) + (1 : Int)).toNat = i + 1 := by omega
 have htn2 : ((n : Int) + (1 : Int)).toNat = n + 1 := by omega
 have hb2 : ¬ (c = i + 1) := by omega
 have hb3 : (i : Int) ≤ (n : Int) + (1 : Int) := by omega
 have hb4 : ¬ (c = i) := by omega
 have hcp1 : ∀ ty dl dc sl sc, dl = n - i → sl = n + 1 - i → (Builtin.copy_ #[24, 24] ty #[.slice (some ⟨g, (i + 1) * 6, none⟩) dl dc, .slice (some ⟨g, i * 6, none⟩) sl sc]).run Tryz.prog w.drew = .ok (goInt ((n - i : Nat) : Int)) (w.drew.setCells g ((i + 1) * 6) (inner.drop (i * 6))) := fun ty dl dc sl sc hdl_ hsl_ =>
  run_copyZInode w.drew _ _ ty 51 g ((i + 1) * 6) dl dc ⟨g, i * 6, none⟩ sl sc (n - i) (inner.drop (i * 6)) Tryz.underlying24 hsz (by simp only [Nat.min_def]; split <;> omega) hdl
   (fun j v hj => by rw [Addr.add_lit]; exact hcell (i * 6 + j) v (by rwa [List.getElem?_drop] at hj))
   (fun j hj => hsp _ (by omega)) (fun j hj => hfz _) (fun v hv => h1c v (List.mem_of_mem_drop hv))
 obtain ⟨W1, hW1⟩ : ∃ W1, W1 = w.drew.setCells g ((i + 1) * 6) (inner.drop (i * 6)) := ⟨_, rfl⟩
 obtain ⟨cur1, hh1, hs1, _⟩ := setCells_row (inner.drop (i * 6)) ((i + 1) * 6) w.drew cur hb (by omega)
 have hcp2 : ∀ (W : World), W.heap = W1.heap → ∀ ty dc, (Builtin.copy_ #[24, 24] ty #[.slice (some ⟨g, i * 6, none⟩) (n + 1 - i) dc, .slice (some ⟨vb, 0, none⟩) 1 1]).run Tryz.prog W = .ok (goInt 1) (W.setCells g (i * 6) vs) := fun W hWh ty dc =>
  run_copyZInode W _ _ ty 51 g (i * 6) (n + 1 - i) dc ⟨vb, 0, none⟩ 1 1 1 vs Tryz.underlying24 hsz (by simp only [Nat.min_def]; split <;> omega) (by omega)
   (fun j v hj => by
    rw [Addr.add_lit, Nat.zero_add]
    rw [show W.cell? ⟨vb, j, none⟩ = w.cell? ⟨vb, j, none⟩ from by rw [blk_cell (w := W) (g := vb) (cs := vs.toArray) (t := 51) (by rw [hWh, hW1, setCells_far _ _ _ hvb]; exact hv) j, blk_cell hv j]]
    exact hvc j v hj)
   (fun j hj => by rw [blk_cell (w := W) (g := g) (cs := cur1) (t := 51) (by rw [hWh, hW1]; exact hh1), Array.getElem?_eq_getElem (by omega)]; rfl) (fun j hj => blk_frozen (w := W) (g := g) (cs := cur1) (t := 51) (by rw [hWh, hW1]; exact hh1) _) h1v
 rw [← hW1] at hcp1
 go_enter Tryz.func75, Tryz.ntmps75
 go_wp2_with (simp only [hov])
 go_region_law_o (refine step_copyZInode rfl _ _ 24 24 rfl (.slice (some ⟨g, (i + 1) * 6, none⟩) (n + 1 - (i + 1)) (c - (i + 1))) (.slice (some ⟨g, i * 6, none⟩) (n + 1 - i) (c - i)) (by simp [Act.eval, Act.put]) (by simp [Act.eval, Act.put]) (hcp1 _ _ _ _ _ (by omega) (by omega)) ?_)
 go_wp2_with (at_builtin; refine wpList_copyZInode _ rfl _ _ 24 24 rfl _ _ rfl rfl (hcp2 _ rfl _ _) ?_)
 go_ret
 first | exact ⟨rfl, rfl⟩ | exact ⟨rfl, by rw [hW1]⟩
theorem infoInode : (Tryz.prog.info? 51).map (fun i => (i.zero, i.size, i.bytes)) = some (some (Value.agg #[.int .i64 0, .int .i64 0, .int .i64 0, .slice none 0 0, .slice none 0 0, .slice none 0 0]), 6, 96) := by kernel_rfl
theorem oneInode (w : World) (vb : Nat) (vs : List Value) (hv : w.heap[vb]? = some (.cells vs.toArray 51 (0, 0))) (hvl : vs.length = 6) (h1v : ∀ u ∈ vs, u.oneCell' = true) : ReadsRow ((Kd.raw 6).K w) 6 w (some ⟨vb, 0, none⟩) 1 [vs] := by
 refine ⟨rfl, by decide, fun _ => ⟨⟨vb, 0, none⟩, rfl, fun j p hj => ?_⟩⟩
 cases j with
 | zero =>
  obtain rfl : vs = p := by simpa using hj
  refine ⟨vs, hvl, ⟨rfl, hvl, h1v⟩, fun i u hu => ?_⟩
  rw [Nat.zero_mul, Nat.zero_add, Addr.add_lit, Nat.zero_add, blk_cell hv i, List.getElem?_toArray, hu]
 | succ j => simp at hj
set_option maxHeartbeats 4000000 in
set_option maxRecDepth 100000 in
theorem insInode_end.calls (A : Option Addr) (n c vb base : Nat) (rows : List (List Value)) (vs : List Value) (w0 w : World) (hn : rows.length = n)
  (hr : (Kd.raw 6).R 51 w base (fun k => some k = (Value.slice A n c).ownBlock ∨ w.heap.size ≤ k) (.slice A n c) rows) (hv : w.heap[vb]? = some (.cells vs.toArray 51 (0, 0))) (hvl : vs.length = 6) (h1v : ∀ u ∈ vs, u.oneCell' = true)
  (hB : Below base w0 w) (hbase : base ≤ w.heap.size) (hbig : (n + 1) * 96 ≤ 140737488355328) :
  Calls Tryz.prog 75 #[.slice A n c, .int .i64 n, .slice (some ⟨vb, 0, none⟩) 1 1] w fun e w' => ∃ v', e = .returned v' ∧ (Kd.raw 6).R 51 w' base (fun k => some k = (Value.slice A n c).ownBlock ∨ w.heap.size ≤ k) v' (rows ++ [vs]) ∧
   Below base w0 w' ∧ w.grownBy w' (Value.slice A n c).ownBlock ∧ (v'.ownBlock = (Value.slice A n c).ownBlock ∨ ∃ b, v'.ownBlock = some b ∧ w.heap.size ≤ b) := by
 have hu := Tryz.underlying24
 have hz1 : ¬ ((1 : Int) = 0) := by omega
 have ho := oneInode w vb vs hv hvl h1v
 have hr' := hr
 obtain ⟨hok, inner, hown, hrep⟩ := hr'
 go_enter Tryz.func75, Tryz.ntmps75
 rcases A with _ | ad
 ·obtain ⟨rfl, rfl⟩ : n = 0 ∧ c = 0 := by
   rcases hown.2 with ⟨h1, h2⟩ | ⟨g', cap', cur, h1, _⟩
   ·injection h1 with _ a b; exact ⟨a, b⟩
   ·cases h1
  go_wp2_with (at_builtin; refine Kd.R_append_rows (Kd.raw 6) (Rr := (Kd.raw 6).K w) (w0 := w0) base rfl _ _ 24 51 (Value.agg #[.int .i64 0, .int .i64 0, .int .i64 0, .slice none 0 0, .slice none 0 0, .slice none 0 0]) 96 rfl hu infoInode rfl (by decide) (by decide) _ rows [vs] (some ⟨vb, 0, none⟩) 1 1 _ (fun _ => False) rfl rfl hr ho (fun x cs h => h) (fun _ h => h.elim) (fun k hk => .inr hk) hB hbase (by omega) ?_; intro v1 w1 h1 h2 h3 h4)
  go_ret
  exact ⟨_, rfl, h1, h2, h3, h4⟩
 ·obtain ⟨g, rfl⟩ := Kd.R_head hr
  have hnc : n ≤ c := (Kd.R_reads' hr).2.1
  go_wp2_with (at_builtin; refine Kd.R_append_rows (Kd.raw 6) (Rr := (Kd.raw 6).K w) (w0 := w0) base rfl _ _ 24 51 (Value.agg #[.int .i64 0, .int .i64 0, .int .i64 0, .slice none 0 0, .slice none 0 0, .slice none 0 0]) 96 rfl hu infoInode rfl (by decide) (by decide) _ rows [vs] (some ⟨vb, 0, none⟩) 1 1 _ (fun _ => False) rfl rfl hr ho (fun x cs h => h) (fun _ h => h.elim) (fun k hk => .inr hk) hB hbase (by omega) ?_; intro v1 w1 h1 h2 h3 h4)
  all_goals (go_ret; exact ⟨_, rfl, h1, h2, h3, h4⟩)
set_option maxHeartbeats 4000000 in
set_option maxRecDepth 100000 in
theorem insInode_grow.calls (g n c i vb : Nat) (cur : Array Value) (inner vs : List Value) (w : World) (hi : i < n) (hnc : n ≤ c) (hroom : c < n + 1) (hbig : (n + 1) * 96 ≤ 140737488355328)
  (hb : w.heap[g]? = some (.cells cur 51 (0, 0))) (hcs : cur.size = c * 6) (hin : cur.toList.take (n * 6) = inner) (hv : w.heap[vb]? = some (.cells vs.toArray 51 (0, 0))) (hvl : vs.length = 6)
  (h1c : ∀ u ∈ inner, u.oneCell' = true) (h1v : ∀ u ∈ vs, u.oneCell' = true) :
  Calls Tryz.prog 75 #[.slice (some ⟨g, 0, none⟩) n c, .int .i64 i, .slice (some ⟨vb, 0, none⟩) 1 1] w fun e w' => ∃ (G : Nat) (ROW : Array Value), n + 1 ≤ G ∧ G ≤ 9223372036854775807 ∧ ROW.size = G * 6 ∧ ROW.toList.take (i * 6) = inner.take (i * 6) ∧
   e = .returned (.slice (some ⟨w.heap.size, 0, none⟩) (n + 1) G) ∧ w' = (((w.alloc (.cells ROW 51)).drew.setCells w.heap.size (i * 6) vs).drew).setCells w.heap.size ((i + 1) * 6) (inner.drop (i * 6)) := by
 have hu := Tryz.underlying24
 have mixed : Tryz.prog.follows .mixedOrders = true := by kernel_rfl
 obtain ⟨i0, hi0, hz0, hzs, hzb⟩ := info_parts infoInode
 have hsz : (Tryz.prog.info? 51).map (·.size) = some 6 := by rw [hi0]; simp [hzs]
 have hz1 : ¬ ((1 : Int) = 0) := by omega
 have hz2 : ¬ ((i : Int) = (n : Int)) := by omega
 have hz3 : (c : Int) < (n : Int) + (1 : Int) := by omega
 have hil : inner.length = n * 6 := by rw [← hin, List.length_take, Array.length_toList]; omega
 have hdl : (inner.drop (i * 6)).length = (n - i) * 6 := by rw [List.length_drop, hil]; omega
 have hgw : g < w.heap.size := blk_lt hb
 have hvw : vb < w.heap.size := blk_lt hv
 have hcell : ∀ j u, inner[j]? = some u → w.cell? ⟨g, j, none⟩ = some u := fun j u hj => by
  rw [blk_cell hb j, ← hj, ← hin, List.getElem?_take]
  have : j < inner.length := (List.getElem?_eq_some_iff.1 hj).1
  rw [if_pos (by omega), Array.getElem?_toList]
 have hvc : ∀ j u, vs[j]? = some u → w.cell? ⟨vb, j, none⟩ = some u := fun j u hj => by rw [blk_cell hv j, List.getElem?_toArray, hj]
 have hkk : (n : Int) + (1 : Int) - (i : Int) = ((n + 1 - i : Nat) : Int) := by omega
 have hik : i + (n + 1 - i) = n + 1 := by omega
 have hold : (Builtin.firstCells i0.size i (.slice (some ⟨g, 0, none⟩) i c)).run Tryz.prog w.drew = .ok (inner.take (i * 6)).toArray w.drew := by
  rw [hzs]
  exact run_firstCells_some w.drew 6 i ⟨g, 0, none⟩ i c (inner.take (i * 6)) (by rw [List.length_take]; omega) (fun j v hj => by
   rw [Addr.add_lit, Nat.zero_add]
   rw [List.getElem?_take] at hj
   split at hj
   ·exact hcell j v hj
   ·cases hj)
 have hrz : ∀ ty, (Builtin.append_ #[24, 3] ty #[.slice (some ⟨g, 0, none⟩) i c, .int .i64 ((n : Int) + (1 : Int) - (i : Int))]).run Tryz.prog w =
   .ok (.slice (some ⟨w.heap.size, 0, none⟩) (n + 1) (grownCap w (n + 1) c 51)) (w.drew.alloc (.cells ((inner.take (i * 6)).toArray ++ Builtin.zeroCells (Value.agg #[.int .i64 0, .int .i64 0, .int .i64 0, .slice none 0 0, .slice none 0 0, .slice none 0 0]).cells (n + 1 - i) ++ Builtin.zeroCells (Value.agg #[.int .i64 0, .int .i64 0, .int .i64 0, .slice none 0 0, .slice none 0 0, .slice none 0 0]).cells (grownCap w (n + 1) c 51 - (n + 1))) 51)) := fun ty => by
  have h := Lib.run_append_grow_zeros w 24 3 ty 51 i0 _ .i64 .i64 hu Tryz.underlying3 hi0 hz0 (some ⟨g, 0, none⟩) i c (inner.take (i * 6)) hold (n + 1 - i) (by omega) (by omega) (by omega) (by omega) (by rw [hzb]; omega) (by rw [hzb, hik]; exact growslice_fits hroom hbig)
  rw [hik] at h
  rw [hkk]
  exact h
 obtain ⟨G, hG⟩ : ∃ G, G = grownCap w (n + 1) c 51 := ⟨_, rfl⟩
 have hGn : n + 1 ≤ G := by rw [hG]; exact grownCap_ge w _ _ _
 have hG63 : G ≤ 9223372036854775807 := by
  have := grownCap_le_maxLen w (n + 1) c 51 (by unfold maxLen; omega)
  rw [← hG] at this
  unfold maxLen at this
  omega
 obtain ⟨ROW, hROW⟩ : ∃ ROW : Array Value, ROW = (inner.take (i * 6)).toArray ++ Builtin.zeroCells (Value.agg #[.int .i64 0, .int .i64 0, .int .i64 0, .slice none 0 0, .slice none 0 0, .slice none 0 0]).cells (n + 1 - i) ++ Builtin.zeroCells (Value.agg #[.int .i64 0, .int .i64 0, .int .i64 0, .slice none 0 0, .slice none 0 0, .slice none 0 0]).cells (G - (n + 1)) := ⟨_, rfl⟩
 rw [← hG] at hrz
 rw [← hROW] at hrz
 have hzc : (Value.agg #[.int .i64 0, .int .i64 0, .int .i64 0, .slice none 0 0, .slice none 0 0, .slice none 0 0]).cells.size = 6 := rfl
 have hRl : ROW.size = G * 6 := by
  rw [hROW]
  simp only [Array.size_append, List.size_toArray, List.length_take, Builtin.zeroCells, Array.size_map, Array.size_range, hzc]
  omega
 have hRt : ROW.toList.take (i * 6) = inner.take (i * 6) := by
  rw [hROW, Array.toList_append, Array.toList_append, List.append_assoc, List.take_append_of_le_length (by rw [List.length_take]; omega), List.take_of_length_le (by rw [List.length_take]; omega)]
 have hblk : ∀ W : World, W.heap = (w.drew.alloc (.cells ROW 51)).heap → W.heap[w.heap.size]? = some (.cells ROW 51 (0, 0)) := fun W h => by rw [h]; exact blk_new w.drew _
 have hcpA : ∀ (W : World), W.heap = (w.drew.alloc (.cells ROW 51)).heap → ∀ ty dc, (Builtin.copy_ #[24, 24] ty #[.slice (some ⟨w.heap.size, i * 6, none⟩) (n + 1 - i) dc, .slice (some ⟨vb, 0, none⟩) 1 1]).run Tryz.prog W = .ok (goInt 1) (W.setCells w.heap.size (i * 6) vs) := fun W hWh ty dc =>
  run_copyZInode W _ _ ty 51 w.heap.size (i * 6) (n + 1 - i) dc ⟨vb, 0, none⟩ 1 1 1 vs hu hsz (by simp only [Nat.min_def]; split <;> omega) (by omega)
   (fun j v hj => by
    rw [Addr.add_lit, Nat.zero_add, blk_cell (w := W) (g := vb) (cs := vs.toArray) (t := 51) (by rw [hWh]; exact blk_alloc (blk_drew hv) _) j, List.getElem?_toArray, hj])
   (fun j hj => by rw [blk_cell (hblk W hWh), Array.getElem?_eq_getElem (by omega)]; rfl) (fun j hj => blk_frozen (hblk W hWh) _) h1v
 obtain ⟨cur1, hh1, hs1, _⟩ := setCells_row vs (i * 6) (w.drew.alloc (.cells ROW 51)) ROW (blk_new w.drew _) (by omega)
 have hcpB : ∀ (W : World), W.heap = ((w.drew.alloc (.cells ROW 51)).setCells w.heap.size (i * 6) vs).heap → ∀ ty dl dc sl sc, dl = n - i → sl = n - i → (Builtin.copy_ #[24, 24] ty #[.slice (some ⟨w.heap.size, (i + 1) * 6, none⟩) dl dc, .slice (some ⟨g, i * 6, none⟩) sl sc]).run Tryz.prog W = .ok (goInt ((n - i : Nat) : Int)) (W.setCells w.heap.size ((i + 1) * 6) (inner.drop (i * 6))) := fun W hWh ty dl dc sl sc hdl_ hsl_ =>
  run_copyZInode W _ _ ty 51 w.heap.size ((i + 1) * 6) dl dc ⟨g, i * 6, none⟩ sl sc (n - i) (inner.drop (i * 6)) hu hsz (by simp only [Nat.min_def]; split <;> omega) hdl
   (fun j v hj => by
    rw [Addr.add_lit]
    have h2 := hcell (i * 6 + j) v (by rwa [List.getElem?_drop] at hj)
    rw [blk_cell hb] at h2
    rw [blk_cell (w := W) (g := g) (cs := cur) (t := 51) (by rw [hWh, setCells_far _ _ _ (by omega)]; exact blk_alloc (blk_drew hb) _)]
    exact h2)
   (fun j hj => by rw [blk_cell (w := W) (g := w.heap.size) (cs := cur1) (t := 51) (by rw [hWh]; exact hh1), Array.getElem?_eq_getElem (by omega)]; rfl) (fun j hj => blk_frozen (w := W) (g := w.heap.size) (cs := cur1) (t := 51) (by rw [hWh]; exact hh1) _) (fun v hv => h1c v (List.mem_of_mem_drop hv))
 have hGi : ¬ (G = i) := by omega
 have hGim : ¬ (G = i + 1) := by omega
 have hci : ¬ (c = i) := by omega
 have hw1 : IntKind.i64.wrap ((i : Int) + (1 : Int)) = (i : Int) + (1 : Int) := by rw [IntKind.wrap_i64]; omega
 have hw2 : IntKind.i64.wrap ((n : Int) + (1 : Int)) = (n : Int) + (1 : Int) := by rw [IntKind.wrap_i64]; omega
 have hw3 : IntKind.i64.wrap ((n : Int) + (1 : Int) - (i : Int)) = (n : Int) + (1 : Int) - (i : Int) := by rw [IntKind.wrap_i64]; omega
 have hb1 : (0 : Int) ≤ (i : Int) + (1 : Int) := by omega
 have hin' : i ≤ n := by omega
 have htn : ((i : Int) + (1 : Int)).toNat = i + 1 := by omega
 have hb3 : (i : Int) ≤ (n : Int) := by omega
 clear hkk hik hold hROW hG hblk hh1 hs1
 go_enter Tryz.func75, Tryz.ntmps75
 go_wp2_with (first
  | (at_builtin; refine Lib.wpList_append_run _ rfl _ _ _ _ rfl _ _ rfl rfl _ _ (hrz _) ?_)
  | (refine wpList_copyZInode _ rfl _ _ 24 24 rfl _ _ rfl rfl (hcpA _ rfl _ _) ?_))
 go_region_law_o (refine step_copyZInode rfl _ _ 24 24 rfl (.slice (some ⟨w.heap.size, (i + 1) * 6, none⟩) (n + 1 - (i + 1)) (G - (i + 1))) (.slice (some ⟨g, i * 6, none⟩) (n - i) (c - i)) (by simp [Act.eval, Act.put]) (by simp [Act.eval, Act.put]) (hcpB ((((w.alloc (.cells ROW 51)).drew).setCells w.heap.size (i * 6) vs).drew) (by rfl) _ _ _ _ _ (by omega) (by omega)) ?_)
 go_wp2
 go_ret
 exact ⟨G, ROW, hGn, hG63, hRl, hRt, rfl, rfl⟩
/-- slices.Insert of one element: the row with it. -/
theorem insInode.calls (A : Option Addr) (n c i vb base : Nat) (ok : Nat → Prop) (rows : List (List Value)) (vs : List Value) (w0 w : World) (hi : i ≤ n) (hn : rows.length = n) (hr : (Kd.raw 6).R 51 w base ok (.slice A n c) rows)
  (hv : w.heap[vb]? = some (.cells vs.toArray 51 (0, 0))) (hvb : some vb ≠ (Value.slice A n c).ownBlock) (hvl : vs.length = 6) (h1v : ∀ u ∈ vs, u.oneCell' = true) (hB : Below base w0 w) (hbase : base ≤ w.heap.size) (hbig : (n + 1) * 96 ≤ 140737488355328) :
  Calls Tryz.prog 75 #[.slice A n c, .int .i64 i, .slice (some ⟨vb, 0, none⟩) 1 1] w fun e w' => ∃ v', e = .returned v' ∧ (Kd.raw 6).R 51 w' base (fun k => some k = (Value.slice A n c).ownBlock ∨ w.heap.size ≤ k) v' (rows.take i ++ [vs] ++ rows.drop i) ∧
   Below base w0 w' ∧ w.grownBy w' (Value.slice A n c).ownBlock ∧ (v'.ownBlock = (Value.slice A n c).ownBlock ∨ ∃ b, v'.ownBlock = some b ∧ w.heap.size ≤ b) := by
 have hr' : (Kd.raw 6).R 51 w base (fun k => some k = (Value.slice A n c).ownBlock ∨ w.heap.size ≤ k) (.slice A n c) rows := ⟨fun k hk => .inl hk.symm, hr.2⟩
 rcases Nat.lt_or_ge i n with hlt | hge
 case inr =>
  obtain rfl : i = n := by omega
  rw [List.take_of_length_le (by omega), List.drop_of_length_le (by omega), List.append_nil]
  exact insInode_end.calls A i c vb base rows vs w0 w hn hr' hv hvl h1v hB hbase hbig
 case inl =>
 obtain ⟨hok, inner, ⟨hil, hown⟩, hrep⟩ := hr'
 rcases hown with ⟨he, h0⟩ | ⟨g, cap, cur, he, hbg, hh, hnc, hcm, hcs, hin⟩
 ·omega
 injection he with ha hnn hcc
 subst ha; subst hcc; subst hnn
 rw [show (Kd.raw 6).sz = 6 from rfl] at hil hcs hin hrep
 have h1c : ∀ u ∈ inner, u.oneCell' = true := Kd.reps_one hrep (by decide) (fun p c h => h.2.2)
 have hrI := reps_ins (i := i) hrep (by omega) hvl h1v
 have hgv : vb ≠ g := fun he => hvb (by rw [he]; rfl)
 have hpl : i * 6 ≤ inner.length := by rw [hil]; omega
 have hlen3 : (rows.take i ++ [vs] ++ rows.drop i).length = rows.length + 1 := by simp only [List.length_append, List.length_take, List.length_drop, List.length_singleton]; omega
 rcases Nat.lt_or_ge c (rows.length + 1) with hg | hroom
 ·refine (insInode_grow.calls g rows.length c i vb cur inner vs w hlt hnc hg hbig hh hcs hin hv hvl h1c h1v).mono ?_
  rintro e w' ⟨G, ROW, hGn, hG63, hRl, hRt, rfl, rfl⟩
  refine ⟨_, rfl, ?_, ?_, grown_alloc_two w _ _ _ _ _ _, .inr ⟨_, rfl, Nat.le_refl _⟩⟩
  ·obtain ⟨c1, k1, k2, k3⟩ := setCells_row (e := 51) vs (i * 6) (w.alloc (.cells ROW 51)).drew ROW (blk_drew (blk_new w _)) (by omega)
   obtain ⟨c2, l1, l2, l3⟩ := setCells_row (inner.drop (i * 6)) ((i + 1) * 6) _ c1 (blk_drew k1) (by rw [List.length_drop, k2, hil, hRl]; omega)
   have hm : G ≤ maxLen := hG63
   rw [hlen3.symm]
   refine rawR_of l1 (by rw [l2, k2, hRl]) (by omega) hm (by omega) (.inr (Nat.le_refl _)) rfl ?_
   rw [l3]
   have := ins_list2 ROW.toList inner vs (i * 6) 6 hvl hpl hRt c1.toList (by rw [Array.length_toList]; omega) k3
   rw [show (i + 1) * 6 = i * 6 + 6 by omega, show (rows.take i ++ [vs] ++ rows.drop i).length * 6 = inner.length + 6 by rw [hlen3, hil]; omega, this]
   exact hrI
  ·exact hB.grown (grown_alloc_two w _ _ _ _ _ none) hbase (fun k e => by cases e)
 ·refine (insInode_shift.calls g rows.length c i vb cur inner vs w hlt hroom (by unfold maxLen at hcm; omega) hgv hh hcs hin hv hvl h1c h1v).mono ?_
  rintro e w' ⟨rfl, rfl⟩
  refine ⟨_, rfl, ?_, ?_, grown_two w g _ _ _ _, .inl rfl⟩
  ·obtain ⟨c1, k1, k2, k3⟩ := setCells_row (inner.drop (i * 6)) ((i + 1) * 6) w.drew cur (blk_drew hh) (by rw [List.length_drop, hil, hcs]; omega)
   obtain ⟨c2, l1, l2, l3⟩ := setCells_row vs (i * 6) _ c1 k1 (by rw [k2, hcs]; omega)
   rw [hlen3.symm]
   refine rawR_of l1 (by rw [l2, k2, hcs]) (by omega) hcm hbg (.inl rfl) rfl ?_
   rw [l3]
   have := ins_list cur.toList inner vs (i * 6) 6 hvl hpl (by rw [← hin, List.take_take, Nat.min_eq_left (by omega)]) (by rw [Array.length_toList, hcs]; omega) c1.toList (by rw [k3, show (i + 1) * 6 = i * 6 + 6 by omega])
   rw [show (rows.take i ++ [vs] ++ rows.drop i).length * 6 = inner.length + 6 by rw [hlen3, hil]; omega, this]
   exact hrI
  ·exact hB.grown (grown_two w g _ _ _ _) hbase (fun k e => by injection e with e; omega)
/-! ### impl_SetInode: function 50 -/
theorem sOpenV {α : Type} {d : Kd α} {e : Nat} {W : World} {base : Nat} {ok : Nat → Prop} {v : Value} {xs : List α} (h : Kd.S d e W base ok v xs) :
  ∃ (rows : List (List Value)) (f : Nat → Nat), rows.length = xs.length ∧ (Kd.raw d.sz).R e W base (fun k => v.ownBlock = some k) v rows ∧ (∀ k, v.ownBlock = some k → ok k) ∧
   ∀ (q : Nat) (x : α), xs[q]? = some x → d.M W base (fun k => (ok k ∧ some k ≠ v.ownBlock) ∧ f k = q) x (rows.getD q []) := by
 obtain ⟨f, hok0, inner, ho, hr⟩ := h
 have hlen : inner.length = xs.length * d.sz := by have := hr.1; rw [List.length_zipIdx] at this; exact this
 have hM : ∀ (q : Nat) (x : α), xs[q]? = some x → d.M W base (fun k => (ok k ∧ some k ≠ v.ownBlock) ∧ f k = q) x ((inner.drop (q * d.sz)).take d.sz) := fun q x hx => hr.2 q (x, q) (Kd.zip_at hx)
 have hrow : ∀ q, q < xs.length → ((List.range xs.length).map fun j => (inner.drop (j * d.sz)).take d.sz)[q]? = some ((inner.drop (q * d.sz)).take d.sz) := fun q hq => by
  rw [List.getElem?_map, List.getElem?_range hq]; rfl
 refine ⟨(List.range xs.length).map fun j => (inner.drop (j * d.sz)).take d.sz, f, by rw [List.length_map, List.length_range], ⟨fun k hk => hk, inner, ?_, ?_, fun j p hj => ?_⟩, hok0, fun q x hx => ?_⟩
 ·rw [List.length_map, List.length_range]; rw [List.length_zipIdx] at ho; exact ho
 ·rw [List.length_map, List.length_range]; exact hlen
 ·rw [List.getElem?_map] at hj
  obtain ⟨j', hj', rfl⟩ := Option.map_eq_some_iff.1 hj
  obtain ⟨hl, he⟩ := List.getElem?_eq_some_iff.1 hj'
  rw [List.getElem_range] at he
  subst he
  rw [List.length_range] at hl
  have hm := d.K_of_M (hM j _ (List.getElem?_eq_getElem hl))
  exact ⟨rfl, d.K_len hm, d.K_one hm⟩
 ·have hq : q < xs.length := (List.getElem?_eq_some_iff.1 hx).1
  rw [List.getD_eq_getElem?_getD, hrow q hq]
  exact hM q x hx
theorem sCloseV {α : Type} {d : Kd α} {e : Nat} {W : World} {base : Nat} {ok okr : Nat → Prop} {v : Value} {xs : List α} {rows : List (List Value)} (f : Nat → Nat)
  (hraw : (Kd.raw d.sz).R e W base okr v rows) (hlen : rows.length = xs.length) (hok : ∀ k, v.ownBlock = some k → ok k)
  (hM : ∀ (q : Nat) (x : α), xs[q]? = some x → d.M W base (fun k => (ok k ∧ some k ≠ v.ownBlock) ∧ f k = q) x (rows.getD q [])) : Kd.S d e W base ok v xs := by
 obtain ⟨_, inner, ho, hr⟩ := hraw
 refine ⟨f, hok, inner, ?_, ?_, fun j p hj => ?_⟩
 ·rw [List.length_zipIdx, ← hlen]; exact ho
 ·rw [List.length_zipIdx, ← hlen]; exact hr.1
 ·rw [List.getElem?_zipIdx, Nat.zero_add] at hj
  obtain ⟨y, hy, rfl⟩ := Option.map_eq_some_iff.1 hj
  have hjl : j < rows.length := by rw [hlen]; exact (List.getElem?_eq_some_iff.1 hy).1
  have hrw := (hr.2 j _ (List.getElem?_eq_getElem hjl)).1
  show d.M W base _ y ((inner.drop (j * d.sz)).take d.sz)
  rw [show (inner.drop (j * d.sz)).take d.sz = rows[j] from hrw]
  have := hM j y hy
  rw [List.getD_eq_getElem?_getD, List.getElem?_eq_getElem hjl] at this
  exact this
theorem ins_at {α : Type} (l : List α) (x : α) (j q : Nat) (hj : j ≤ l.length) : (l.take j ++ [x] ++ l.drop j)[q]? = if q < j then l[q]? else if q = j then some x else l[q - 1]? := by
 have ht : (l.take j).length = j := by rw [List.length_take]; omega
 rw [List.append_assoc]
 by_cases h1 : q < j
 ·rw [if_pos h1, List.getElem?_append_left (by omega), List.getElem?_take, if_pos h1]
 ·rw [if_neg h1, List.getElem?_append_right (by omega), ht]
  by_cases h2 : q = j
  ·subst h2; rw [if_pos rfl, Nat.sub_self]; rfl
  ·rw [if_neg h2, show q - j = (q - j - 1) + 1 by omega]
   simp only [List.singleton_append, List.getElem?_cons_succ, List.getElem?_drop]
   rw [show j + (q - j - 1) = q - 1 by omega]
/-- A row of structs whose element i is written over with a new one (made from N on): a row again. -/
theorem s_set {α : Type} {d : Kd α} {e : Nat} {W W1 : World} {base N : Nat} {ok okx okr okf : Nat → Prop} {v : Value} {xs : List α} {rows : List (List Value)} {f : Nat → Nat} {i : Nat} {x : α} {vs : List Value}
  (hraw : (Kd.raw d.sz).R e W1 base okr v (rows.set i vs)) (hlen : rows.length = xs.length) (hi : i < xs.length)
  (hM : ∀ (q : Nat) (x : α), xs[q]? = some x → d.M W base (fun k => (ok k ∧ some k ≠ v.ownBlock) ∧ f k = q) x (rows.getD q [])) (hx : d.M W base okx x vs)
  (hv : ∀ k, v.ownBlock = some k → ok k) (hN : ∀ k, ok k → k < N) (hxN : ∀ k, okx k → N ≤ k) (hof : ∀ k, ok k ∨ okx k → okf k)
  (hmove : ∀ k, some k ≠ v.ownBlock → k < W.heap.size → W1.heap[k]? = W.heap[k]?) : Kd.S d e W1 base okf v (xs.set i x) := by
 refine sCloseV (fun k => if k < N then f k else i) hraw (by rw [List.length_set, List.length_set, hlen]) (fun k hk => hof k (.inl (hv k hk))) (fun q y hy => ?_)
 by_cases hq : q = i
 ·subst hq
  rw [List.getElem?_set_self hi] at hy
  injection hy with hy
  subst hy
  rw [List.getD_eq_getElem?_getD, List.getElem?_set_self (by omega)]
  have hne : ∀ k, okx k → some k ≠ v.ownBlock := fun k hk he => by have := hN k (hv k he.symm); have := hxN k hk; omega
  exact d.M_mono (fun k hk => ⟨⟨hof k (.inr hk), hne k hk⟩, by rw [if_neg (by have := hxN k hk; omega)]⟩) (Kd.M_step hx (fun k hk hlt => hmove k (hne k hk) hlt))
 ·rw [List.getElem?_set_ne (fun e => hq e.symm)] at hy
  rw [List.getD_eq_getElem?_getD, List.getElem?_set_ne (fun e => hq e.symm), ← List.getD_eq_getElem?_getD]
  exact d.M_mono (fun k hk => ⟨⟨hof k (.inl hk.1.1), hk.1.2⟩, by rw [if_pos (hN k hk.1.1)]; exact hk.2⟩) (Kd.M_step (hM q y hy) (fun k hk hlt => hmove k hk.1.2 hlt))
/-- The same where a new one is set in between. -/
theorem s_ins {α : Type} {d : Kd α} {e : Nat} {W W1 : World} {base N N2 : Nat} {ok okx okr okf : Nat → Prop} {v v1 : Value} {xs : List α} {rows : List (List Value)} {f : Nat → Nat} {i : Nat} {x : α} {vs : List Value}
  (hraw : (Kd.raw d.sz).R e W1 base okr v1 (rows.take i ++ [vs] ++ rows.drop i)) (hlen : rows.length = xs.length) (hi : i ≤ xs.length)
  (hM : ∀ (q : Nat) (x : α), xs[q]? = some x → d.M W base (fun k => (ok k ∧ some k ≠ v.ownBlock) ∧ f k = q) x (rows.getD q [])) (hx : d.M W base okx x vs)
  (hv : ∀ k, v.ownBlock = some k → ok k) (hv1 : v1.ownBlock = v.ownBlock ∨ ∃ b, v1.ownBlock = some b ∧ N2 ≤ b) (hN : ∀ k, ok k → k < N) (hxN : ∀ k, okx k → N ≤ k ∧ k < N2) (hNN : N ≤ N2) (hof : ∀ k, ok k ∨ okx k ∨ N2 ≤ k → okf k)
  (hmove : ∀ k, some k ≠ v.ownBlock → k < W.heap.size → W1.heap[k]? = W.heap[k]?) : Kd.S d e W1 base okf v1 (xs.take i ++ [x] ++ xs.drop i) := by
 have hl1 : (rows.take i ++ [vs] ++ rows.drop i).length = (xs.take i ++ [x] ++ xs.drop i).length := by simp only [List.length_append, List.length_take, List.length_drop, List.length_singleton, hlen]
 have hvx : ∀ k, okx k → some k ≠ v.ownBlock := fun k hk he => by have := hN k (hv k he.symm); have := (hxN k hk).1; omega
 have hvx1 : ∀ k, okx k → some k ≠ v1.ownBlock := fun k hk he => by
  rcases hv1 with h | ⟨b, h, hb⟩
  ·exact hvx k hk (he.trans h)
  ·rw [h] at he; injection he with he; have := (hxN k hk).2; omega
 have hvo1 : ∀ k, ok k → some k ≠ v.ownBlock → some k ≠ v1.ownBlock := fun k hk hne he => by
  rcases hv1 with h | ⟨b, h, hb⟩
  ·exact hne (he.trans h)
  ·rw [h] at he; injection he with he; have := hN k hk; omega
 refine sCloseV (fun k => if k < N then (if f k < i then f k else f k + 1) else i) hraw hl1 (fun k hk => ?_) (fun q y hy => ?_)
 ·rcases hv1 with h | ⟨b, h, hb⟩
  ·exact hof k (.inl (hv k (h ▸ hk)))
  ·rw [h] at hk; injection hk with hk; exact hof k (.inr (.inr (hk ▸ hb)))
 ·rw [ins_at xs x i q hi] at hy
  rw [List.getD_eq_getElem?_getD, ins_at rows vs i q (by omega)]
  by_cases h1 : q < i
  ·rw [if_pos h1] at hy ⊢
   rw [← List.getD_eq_getElem?_getD]
   exact d.M_mono (fun k hk => ⟨⟨hof k (.inl hk.1.1), hvo1 k hk.1.1 hk.1.2⟩, by rw [if_pos (hN k hk.1.1), hk.2, if_pos h1]⟩) (Kd.M_step (hM q y hy) (fun k hk hlt => hmove k hk.1.2 hlt))
  ·rw [if_neg h1] at hy ⊢
   by_cases h2 : q = i
   ·rw [if_pos h2] at hy ⊢
    injection hy with hy
    subst hy
    exact d.M_mono (fun k hk => ⟨⟨hof k (.inr (.inl hk)), hvx1 k hk⟩, by rw [if_neg (by have := (hxN k hk).1; omega), h2]⟩) (Kd.M_step hx (fun k hk hlt => hmove k (hvx k hk) hlt))
   ·rw [if_neg h2] at hy ⊢
    rw [← List.getD_eq_getElem?_getD]
    exact d.M_mono (fun k hk => ⟨⟨hof k (.inl hk.1.1), hvo1 k hk.1.1 hk.1.2⟩, by rw [if_pos (hN k hk.1.1), hk.2, if_neg (by omega)]; omega⟩) (Kd.M_step (hM (q - 1) y hy) (fun k hk hlt => hmove k hk.1.2 hlt))
def gtR (ino : Int) : List S51 → Nat → Int
 | [], _ => -1
 | x :: l, i => if ino < x.f0 then (i : Int) else gtR ino l (i + 1)
theorem setOf1.calls (ino a b c : Int) (A3 A4 A5 : Option Addr) (n3 c3 n4 c4 n5 c5 : Nat) (B : Nat) (W : World) (hB : B < W.heap.size) (hc : W.cell? ⟨B, 0, none⟩ = some (.int .i64 ino)) :
  Calls Tryz.prog 74 #[.agg #[.int .i64 a, .int .i64 b, .int .i64 c, .slice A3 n3 c3, .slice A4 n4 c4, .slice A5 n5 c5], .pointer (some ⟨B, 0, none⟩)] W fun e w' => e = .returned (.bool (decide (ino < a))) ∧ Below W.heap.size W w' := by
 have hne : B ≠ W.heap.size := by omega
 go_enter Tryz.func74, Tryz.ntmps74
 go_wp2
 all_goals (go_ret; exact ⟨by simp_all, (Below.refl _ W).alloc (Nat.le_refl _) _⟩)
theorem srd_at (l : List S51) (k : Nat) (h : k < l.length) : rd_T51 l (k : Int) = l[k] := by
 simp [rd_T51, List.getD_eq_getElem?_getD, List.getElem?_eq_getElem h]
theorem gtR_hit (ino : Int) (l : List S51) (k j : Nat) (h : k < l.length) (hit : ino < (rd_T51 l (k : Int)).f0) : gtR ino (l.drop k) j = (j : Int) := by
 rw [List.drop_eq_getElem_cons h, gtR, if_pos (by rw [← srd_at l k h]; exact hit)]
theorem gtR_miss (ino : Int) (l : List S51) (k j : Nat) (h : k < l.length) (hit : ¬ ino < (rd_T51 l (k : Int)).f0) : gtR ino (l.drop k) j = gtR ino (l.drop (k + 1)) (j + 1) := by
 rw [List.drop_eq_getElem_cons h, gtR, if_neg (by rw [← srd_at l k h]; exact hit)]
set_option maxHeartbeats 400000 in
set_option maxRecDepth 100000 in
theorem setOf2.calls (ino : Int) (A0 : Option Addr) (c0 : Nat) (l : List S51) (B : Nat) (w : World) (hr : k51.C w A0 l.length l) (hB : B < w.heap.size) (hc : w.cell? ⟨B, 0, none⟩ = some (.int .i64 ino)) (hl : l.length ≤ 9223372036854775807) :
  Calls Tryz.prog 69 #[.slice A0 l.length c0, .func (.func 74) #[] #[.pointer (some ⟨B, 0, none⟩)]] w fun e w' => e = .returned (.int .i64 (gtR ino l 0)) ∧ Below w.heap.size w w' := by
 go_enter Tryz.func69, Tryz.ntmps69
 go_wp2
 go_loopg [5, 8] l.length (fun gg _ s8 wr => ∃ kk : Nat, kk ≤ l.length ∧ l.length - kk ≤ gg ∧ s8 = .int .i64 kk ∧ Aside0 (Below w.heap.size w wr) ∧ Aside0 (gtR ino l 0 = gtR ino (l.drop kk) kk))
 case atStart => exact ⟨0, Nat.zero_le _, by omega, rfl, ⟨Below.refl _ w⟩, ⟨rfl⟩⟩
 case round =>
  obtain ⟨kk, hkk, hg, rfl, BW, A⟩ := hrel
  by_cases hlt : kk < l.length
  ·have hltz : (kk : Int) < (l.length : Int) := by omega
   obtain ⟨ad, A3, c3, A4, c4, A5, c5, e0, h0, h1, h2, h3, h4, h5, _⟩ := at_T51 (Kd.C_below hr BW.out) (kk : Int) (by omega) hltz
   cases e0
   rw [Int.toNat_natCast] at h0 h1 h2 h3 h4 h5
   have hBw : B < wr.heap.size := Nat.lt_of_lt_of_le hB BW.out.size
   have hcw : wr.cell? ⟨B, 0, none⟩ = some (.int .i64 ino) := (BW.out.cell (p := ⟨B, 0, none⟩) hB).trans hc
   by_cases hit : ino < (rd_T51 l (kk : Int)).f0
   ·have hq : decide (ino < (rd_T51 l (kk : Int)).f0) = true := by simpa using hit
    go_wp2_with (go_at_call 74; refine (setOf1.calls ino _ _ _ _ _ _ _ _ _ _ _ _ B wr hBw hcw).mono ?_; rintro e w' ⟨rfl, hb'⟩; rw [hq])
    go_ret
    exact ⟨by rw [A.out, gtR_hit ino l kk kk hlt (by omega)]; rfl, below_then BW.out BW.out.size hb'⟩
   ·have hq : decide (ino < (rd_T51 l (kk : Int)).f0) = false := by simpa using hit
    go_wp2_with (go_at_call 74; refine (setOf1.calls ino _ _ _ _ _ _ _ _ _ _ _ _ B wr hBw hcw).mono ?_; rintro e w' ⟨rfl, hb'⟩; rw [hq])
    go_roundg (l.length - (kk + 1))
    case measure => omega
    case rel => exact ⟨kk + 1, by omega, by omega, by go_num, ⟨below_then BW.out BW.out.size hb'⟩, ⟨by rw [A.out, gtR_miss ino l kk kk hlt (by omega)]⟩⟩
  ·have hltz : ¬ (kk : Int) < (l.length : Int) := by omega
   obtain rfl : kk = l.length := by omega
   go_wp2
   go_ret
   exact ⟨by rw [A.out, List.drop_length]; rfl, BW.out⟩
theorem gtR_spec (ino : Int) (l : List S51) : ∀ j : Nat, gtR ino l j = -1 ∨ ∃ i : Nat, gtR ino l j = ((j + i : Nat) : Int) ∧ i < l.length := by
 induction l with
 | nil => intro j; exact .inl rfl
 | cons x l ih =>
  intro j
  rw [gtR]
  by_cases c : ino < x.f0
  ·rw [if_pos c]; exact .inr ⟨0, by simp, by simp⟩
  ·rw [if_neg c]
   rcases ih (j + 1) with h1 | ⟨i, h1, h2⟩
   ·exact .inl h1
   ·exact .inr ⟨i + 1, by rw [h1]; congr 1; omega, by simpa using h2⟩
theorem placeR_spec (ino : Int) (l : List S51) : ∀ j : Nat, placeR ino l j = -1 ∨ ∃ i : Nat, placeR ino l j = ((j + i : Nat) : Int) ∧ i < l.length := by
 induction l with
 | nil => intro j; exact .inl rfl
 | cons x l ih =>
  intro j
  rw [placeR]
  by_cases c : x.f0 = ino
  ·rw [if_pos c]; exact .inr ⟨0, by simp, by simp⟩
  ·rw [if_neg c]
   rcases ih (j + 1) with h1 | ⟨i, h1, h2⟩
   ·exact .inl h1
   ·exact .inr ⟨i + 1, by rw [h1]; congr 1; omega, by simpa using h2⟩
def gtP (ino : Int) (l : List S51) : Nat := if gtR ino l 0 < 0 then l.length else (gtR ino l 0).toNat
def setP (x : S51) (l : List S51) : List S51 := if 0 ≤ placeR x.f0 l 0 then l.set (placeR x.f0 l 0).toNat x else l.take (gtP x.f0 l) ++ [x] ++ l.drop (gtP x.f0 l)
theorem bgrownV {W W1 : World} {g : Nat} {o : Obj} {v : Value} (h : Aside0 (W.heap[g]? = some o)) (hg : W.grownBy W1 v.ownBlock) (hn : some g ≠ v.ownBlock) : Aside0 (W1.heap[g]? = some o) := ⟨blk_grown h.out hg hn⟩
theorem raw_wholeS {w : World} {base sz : Nat} {ok : Nat → Prop} {c' seg : List Value} (hc : c'.length = sz) (hs : seg.length = sz) (h1 : ∀ v ∈ seg, v.oneCell' = true) : (Kd.raw sz).M w base ok seg (c'.take 0 ++ seg ++ c'.drop (0 + seg.length)) := by
 have e : c'.take 0 ++ seg ++ c'.drop (0 + seg.length) = seg := by rw [Nat.zero_add, hs, ← hc, List.drop_length]; simp
 exact ⟨e, by rw [e]; exact hs, by rw [e]; exact h1⟩
theorem bgrown {W W1 : World} {g g' : Nat} {o : Obj} (h : Aside0 (W.heap[g]? = some o)) (hg : W.grownBy W1 (some g')) (hn : ¬ (g = g')) : Aside0 (W1.heap[g]? = some o) := ⟨blk_grown h.out hg (by intro he; injection he with he; exact hn he)⟩
theorem put6 {W : World} {g : Nat} {t : TypeId} {a0 a1 a2 a3 a4 a5 : Value} (h : W.heap[g]? = some (.cells #[a0, a1, a2, a3, a4, a5] t (0, 0))) (v0 v1 v2 v3 v4 v5 : Value) :
  ((((((W.setCell ⟨g, 0, none⟩ v0).setCell ⟨g, 1, none⟩ v1).setCell ⟨g, 2, none⟩ v2).setCell ⟨g, 3, none⟩ v3).setCell ⟨g, 4, none⟩ v4).setCell ⟨g, 5, none⟩ v5).heap[g]? = some (.cells #[v0, v1, v2, v3, v4, v5] t (0, 0)) ∧
   (∀ k, k ≠ g → ((((((W.setCell ⟨g, 0, none⟩ v0).setCell ⟨g, 1, none⟩ v1).setCell ⟨g, 2, none⟩ v2).setCell ⟨g, 3, none⟩ v3).setCell ⟨g, 4, none⟩ v4).setCell ⟨g, 5, none⟩ v5).heap[k]? = W.heap[k]?) ∧
   ((((((W.setCell ⟨g, 0, none⟩ v0).setCell ⟨g, 1, none⟩ v1).setCell ⟨g, 2, none⟩ v2).setCell ⟨g, 3, none⟩ v3).setCell ⟨g, 4, none⟩ v4).setCell ⟨g, 5, none⟩ v5).heap.size = W.heap.size :=
 ⟨by
  refine blk_put (cs := #[v0, v1, v2, v3, v4, a5]) ?_ 5 _ rfl
  refine blk_put (cs := #[v0, v1, v2, v3, a4, a5]) ?_ 4 _ rfl
  refine blk_put (cs := #[v0, v1, v2, a3, a4, a5]) ?_ 3 _ rfl
  refine blk_put (cs := #[v0, v1, a2, a3, a4, a5]) ?_ 2 _ rfl
  refine blk_put (cs := #[v0, a1, a2, a3, a4, a5]) ?_ 1 _ rfl
  exact blk_put h 0 _ rfl,
 fun k hk => by rw [Below.heap_setCell _ _ _ _ hk, Below.heap_setCell _ _ _ _ hk, Below.heap_setCell _ _ _ _ hk, Below.heap_setCell _ _ _ _ hk, Below.heap_setCell _ _ _ _ hk, Below.heap_setCell _ _ _ _ hk], by simp [World.setCell]⟩
def impl_SetInode.f (k : Nat) (l0_0 : List S51) (a0_1 b0 b1 b2 : Int) (m3 : List Int) (m4 : List S65) (m5 : List S71) : Option (List S51 × Int) := (impl_copyTab.f k l0_0 a0_1).bind fun t => (impl_copyInode.f b0 b1 b2 m3 m4 m5).bind fun y => if t.1.length ≤ 1466015503700 then some (setP ⟨y.1, y.2.1, y.2.2.1, y.2.2.2.1, y.2.2.2.2.1, y.2.2.2.2.2⟩ t.1, t.2) else none
set_option maxHeartbeats 2000000 in
set_option maxRecDepth 100000 in
theorem impl_SetInode.calls (k : Nat) (A0_0 : Option Addr) (c0_0 : Nat) (l0_0 : List S51) (a0_1 b0 b1 b2 : Int) (A1_3 : Option Addr) (c1_3 : Nat) (m3 : List Int) (A1_4 : Option Addr) (c1_4 : Nat) (m4 : List S65) (A1_5 : Option Addr) (c1_5 : Nat) (m5 : List S71) (r1 : List S51) (r2 : Int) (w : World)
  (hr0_0 : Kd.C k51 w A0_0 l0_0.length l0_0) (hc0_0 : l0_0.length ≤ c0_0) (hr1_3 : Kd.C (Kd.int .u8) w A1_3 m3.length m3) (hc1_3 : m3.length ≤ c1_3) (hr1_4 : Kd.C k65 w A1_4 m4.length m4) (hc1_4 : m4.length ≤ c1_4) (hr1_5 : Kd.C k71 w A1_5 m5.length m5) (hc1_5 : m5.length ≤ c1_5) (h : impl_SetInode.f k l0_0 a0_1 b0 b1 b2 m3 m4 m5 = some (r1, r2)) :
  Calls Tryz.prog 50 #[.agg #[.slice A0_0 l0_0.length c0_0, .int .i64 a0_1], .agg #[.int .i64 b0, .int .i64 b1, .int .i64 b2, .slice A1_3 m3.length c1_3, .slice A1_4 m4.length c1_4, .slice A1_5 m5.length c1_5]] w fun e w' => ∃ v0_ : Value, e = .returned (.agg #[v0_, .int .i64 r2]) ∧ Kd.S k51 51 w' w.heap.size (fun _ => True) v0_ r1 ∧ Below w.heap.size w w' := by
 unfold impl_SetInode.f at h
 replace h := bA h
 obtain ⟨⟨t1, t2⟩, H1, h⟩ := h
 replace h := bA h
 obtain ⟨⟨y0, y1, y2, y3, y4, y5⟩, H2, h⟩ := h
 split at h
 case isFalse => cases h
 case isTrue hl =>
 simp only [Option.some.injEq, Prod.mk.injEq] at h
 obtain ⟨hR1, rfl⟩ := h
 have hl' : t1.length ≤ 1466015503700 := hl
 clear hl
 have HL := Aside0.mk hl'
 have HR1 := Aside0.mk hR1
 clear hl' hR1
 have HR0 := Aside0.mk hr0_0
 have HC0 := Aside0.mk hc0_0
 have HR3 := Aside0.mk hr1_3
 have HC3 := Aside0.mk hc1_3
 have HR4 := Aside0.mk hr1_4
 have HC4 := Aside0.mk hc1_4
 have HR5 := Aside0.mk hr1_5
 have HC5 := Aside0.mk hc1_5
 clear hr0_0 hc0_0 hr1_3 hc1_3 hr1_4 hc1_4 hr1_5 hc1_5
 have HB := Aside0.mk (Below.refl w.heap.size w)
 go_enter Tryz.func50, Tryz.ntmps50
 go_wp2_with fail
 refine (impl_copyTab.calls k _ _ l0_0 a0_1 t1 t2 _ (kC HR0) HC0.out H1.out).mono ?_
 rintro e w2 ⟨v0, rfl, hs, hb⟩
 obtain ⟨A, c, rfl⟩ := Kd.S_slice hs
 have KT := Aside0.mk (blk_below (blk_alloc (blk_alloc (blk_new _ _) _) _) hb)
 have KI := Aside0.mk (blk_below (blk_alloc (blk_new _ _) _) hb)
 have KR := Aside0.mk (blk_below (blk_new _ _) hb)
 simp only [World.size_alloc] at KI KR
 have S1 := siv' hs (w.heap.size + 3) w.heap.size (by simp) (by simp only [World.size_alloc]; omega)
 have n1 : w.heap.size + 3 ≤ w2.heap.size := by have := hb.size; simpa using this
 replace HB := Aside0.mk (below_step (below_alloc (below_alloc (below_alloc (Below.refl _ _) _) _) _) hb)
 clear hs hb
 have zt := z2 KT
 have zi := z6 KI
 have zr := z2 KR
 have KT3 := Aside0.mk (show ((w2.setCell ⟨w.heap.size, 0, none⟩ (.slice A t1.length c)).setCell ⟨w.heap.size, 1, none⟩ (.int .i64 t2)).heap[w.heap.size]? = some (.cells #[.slice A t1.length c, .int .i64 t2] 26 (0, 0)) by simpa using blk_set (blk_set KT.out 0 (.slice A t1.length c)) 1 (.int .i64 t2))
 have KI3 := Aside0.mk (show ((w2.setCell ⟨w.heap.size, 0, none⟩ (.slice A t1.length c)).setCell ⟨w.heap.size, 1, none⟩ (.int .i64 t2)).heap[w.heap.size + 1]? = some (.cells #[.int .i64 b0, .int .i64 b1, .int .i64 b2, .slice A1_3 m3.length c1_3, .slice A1_4 m4.length c1_4, .slice A1_5 m5.length c1_5] 51 (0, 0)) by rw [Below.heap_setCell _ _ _ _ (by simp), Below.heap_setCell _ _ _ _ (by simp)]; exact KI.out)
 have KR3 := Aside0.mk (show ((w2.setCell ⟨w.heap.size, 0, none⟩ (.slice A t1.length c)).setCell ⟨w.heap.size, 1, none⟩ (.int .i64 t2)).heap[w.heap.size + 1 + 1]? = some (.cells #[.slice none 0 0, .int .i64 0] 26 (0, 0)) by rw [Below.heap_setCell _ _ _ _ (by simp; omega), Below.heap_setCell _ _ _ _ (by simp; omega)]; exact KR.out)
 have HB3 := Aside0.mk ((HB.out.setCell (p := ⟨w.heap.size, 0, none⟩) (Nat.le_refl _) (.slice A t1.length c)).setCell (p := ⟨w.heap.size, 1, none⟩) (Nat.le_refl _) (.int .i64 t2))
 have S3 := Aside0.mk (Kd.S_far (p := ⟨w.heap.size, 1, none⟩) (Kd.S_far (p := ⟨w.heap.size, 0, none⟩) S1.out (fun k hk => by have := hk.1; dsimp only; omega) (.slice A t1.length c)) (fun k hk => by have := hk.1; dsimp only; omega) (.int .i64 t2))
 go_wp2_with fail
 have hsz3 : ((w2.setCell ⟨w.heap.size, 0, none⟩ (.slice A t1.length c)).setCell ⟨w.heap.size, 1, none⟩ (.int .i64 t2)).heap.size = w2.heap.size := by simp [World.setCell]
 generalize hW3 : ((w2.setCell ⟨w.heap.size, 0, none⟩ (.slice A t1.length c)).setCell ⟨w.heap.size, 1, none⟩ (.int .i64 t2)) = W3 at KT3 KI3 KR3 HB3 S3 hsz3 ⊢
 clear hW3 zt zi zr KT KI KR S1 HB
 refine (impl_copyInode.calls b0 b1 b2 _ _ m3 _ _ m4 _ _ m5 y0 y1 y2 y3 y4 y5 W3 (Kd.C_below HR3.out HB3.out) HC3.out (Kd.C_below HR4.out HB3.out) HC4.out (Kd.C_below HR5.out HB3.out) HC5.out H2.out).mono ?_
 rintro e w4 ⟨v3, v4, v5, rfl, g3, g4, g5, hb⟩
 have KT := Aside0.mk (blk_below KT3.out hb)
 have KI := Aside0.mk (blk_below KI3.out hb)
 have KR := Aside0.mk (blk_below KR3.out hb)
 have HB := Aside0.mk (below_step HB3.out hb)
 have S4 := Aside0.mk (Kd.S_below S3.out hb)
 have n4 : w2.heap.size ≤ w4.heap.size := by have := hb.size; omega
 have G3 := riv' g3 w2.heap.size w.heap.size (by omega) (by omega)
 have G4 := riv' g4 w2.heap.size w.heap.size (by omega) (by omega)
 have G5 := riv' g5 w2.heap.size w.heap.size (by omega) (by omega)
 clear hb KT3 KI3 KR3 HB3 S3 g3 g4 g5 hsz3
 obtain ⟨A3, c3, rfl⟩ := Kd.R_slice G3.out
 obtain ⟨A4, c4, rfl⟩ := Kd.R_slice G4.out
 obtain ⟨A5, c5, rfl⟩ := Kd.R_slice G5.out
 have zt := z2 KT
 have zi := z6 KI
 have d01 : ¬ (w.heap.size = w.heap.size + 1) := by omega
 have d10 : ¬ (w.heap.size + 1 = w.heap.size) := by omega
 go_wp2_with fail
 obtain ⟨p1, p2, p3⟩ := put6 KI.out (.int .i64 y0) (.int .i64 y1) (.int .i64 y2) (.slice A3 y3.length c3) (.slice A4 y4.length c4) (.slice A5 y5.length c5)
 have HB5 := Aside0.mk ((((((HB.out.setCell (p := ⟨w.heap.size + 1, 0, none⟩) (by dsimp only; omega) (.int .i64 y0)).setCell (p := ⟨w.heap.size + 1, 1, none⟩) (by dsimp only; omega) (.int .i64 y1)).setCell (p := ⟨w.heap.size + 1, 2, none⟩) (by dsimp only; omega) (.int .i64 y2)).setCell (p := ⟨w.heap.size + 1, 3, none⟩) (by dsimp only; omega) (.slice A3 y3.length c3)).setCell (p := ⟨w.heap.size + 1, 4, none⟩) (by dsimp only; omega) (.slice A4 y4.length c4)).setCell (p := ⟨w.heap.size + 1, 5, none⟩) (by dsimp only; omega) (.slice A5 y5.length c5))
 generalize hW5 : ((((((w4.setCell ⟨w.heap.size + 1, 0, none⟩ (.int .i64 y0)).setCell ⟨w.heap.size + 1, 1, none⟩ (.int .i64 y1)).setCell ⟨w.heap.size + 1, 2, none⟩ (.int .i64 y2)).setCell ⟨w.heap.size + 1, 3, none⟩ (.slice A3 y3.length c3)).setCell ⟨w.heap.size + 1, 4, none⟩ (.slice A4 y4.length c4)).setCell ⟨w.heap.size + 1, 5, none⟩ (.slice A5 y5.length c5)) = W5 at p1 p2 p3 HB5 ⊢
 have KT5 := Aside0.mk ((p2 w.heap.size (by omega)).trans KT.out)
 have KR5 := Aside0.mk ((p2 (w.heap.size + 1 + 1) (by omega)).trans KR.out)
 have KI5 := Aside0.mk p1
 have S5 := Aside0.mk (Kd.S_step S4.out (fun k hk _ => p2 k (by have := hk.1; omega)))
 replace G3 := Aside0.mk (Kd.R_step G3.out (fun k hk _ => p2 k (by have := hk.1; omega)))
 replace G4 := Aside0.mk (Kd.R_step G4.out (fun k hk _ => p2 k (by have := hk.1; omega)))
 replace G5 := Aside0.mk (Kd.R_step G5.out (fun k hk _ => p2 k (by have := hk.1; omega)))
 clear hW5 p1 p2 KT KI KR HB S4 zt zi
 have hplace : impl_placeOf.f k t1 t2 y0 = some (placeR y0 t1 0) := by unfold impl_placeOf.f; rw [if_pos (by have := HL.out; omega)]
 refine (impl_placeOf.calls k _ _ t1 t2 y0 _ W5 (Kd.S_reads' S5.out).2.2 (rl S5) hplace).mono ?_
 rintro e w6 ⟨rfl, hb⟩
 replace n4 : w2.heap.size ≤ w6.heap.size ∧ w4.heap.size ≤ w6.heap.size := by have := hb.size; omega
 have KT := Aside0.mk (blk_below KT5.out hb)
 have KI := Aside0.mk (blk_below KI5.out hb)
 have KR := Aside0.mk (blk_below KR5.out hb)
 have HB := Aside0.mk (below_step HB5.out hb)
 have S6 := Aside0.mk (Kd.S_below S5.out hb)
 replace G3 := Aside0.mk (Kd.R_below G3.out hb)
 replace G4 := Aside0.mk (Kd.R_below G4.out hb)
 replace G5 := Aside0.mk (Kd.R_below G5.out hb)
 clear hb KT5 KI5 KR5 HB5 S5 hplace p3
 have zt := z2 KT
 have zi := z6 KI
 have zr := z2 KR
 obtain ⟨rows, f, hrl, hraw, hPg, hM⟩ := sOpenV S6.out
 have HX := Aside0.mk (k51_mkM w6 w.heap.size (fun k => w2.heap.size ≤ k ∧ k < w4.heap.size) (⟨y0, y1, y2, y3, y4, y5⟩ : S51) G3.out G4.out G5.out)
 have HRAW := Aside0.mk hraw
 have HM := Aside0.mk hM
 have HP := Aside0.mk hPg
 have HRL := Aside0.mk hrl
 clear G3 G4 G5 hraw hM hPg hrl
 rcases placeR_spec y0 t1 0 with hp | ⟨i, hp, hit⟩
 case inr =>
  rw [Nat.zero_add] at hp
  rw [hp]
  obtain ⟨g, cap, ev, gb, _, _⟩ := Kd.S_form S6.out (by omega)
  injection ev with ea en ec
  subst ea
  clear en ec
  have hltz : (i : Int) < (t1.length : Int) := by omega
  have hi0 : (0 : Int) ≤ (i : Int) := by omega
  have hg3 := HP.out g rfl
  have dg0 : ¬ (w.heap.size = g) := by omega
  have dg1 : ¬ (w.heap.size + 1 = g) := by omega
  have dg2 : ¬ (w.heap.size + 1 + 1 = g) := by omega
  have HONE := Aside0.mk (k51.K_one (k51.K_of_M HX.out))
  obtain ⟨c', hcl', hcm', hcc', _⟩ := Kd.R_elem HRAW.out [] (i : Int) hi0 hltz
  have HCC := Aside0.mk hcc'
  have HCL := Aside0.mk hcl'
  clear hcc' hcm' hcl'
  go_wp2_with ((with_reducible refine gate_store (t := 51) (p := 21) rfl ?_); refine Kd.R_store (Kd.raw k51.sz) w.heap.size rfl rfl 51 (.tmp 21) (.tmp 20) rfl 51 (i : Int) 0 rows [.int .i64 y0, .int .i64 y1, .int .i64 y2, .slice A3 y3.length c3, .slice A4 y4.length c4, .slice A5 y5.length c5] (.agg [.int .i64 y0, .int .i64 y1, .int .i64 y2, .slice A3 y3.length c3, .slice A4 y4.length c4, .slice A5 y5.length c5].toArray) [.int .i64 y0, .int .i64 y1, .int .i64 y2, .slice A3 y3.length c3, .slice A4 y4.length c4, .slice A5 y5.length c5] c' _ (fun _ => False) rfl (by simp; rfl) rfl rfl (by kernel_rfl) HONE.out HRAW.out hi0 hltz HCL.out HCC.out (Nat.le_refl _) (raw_wholeS HCL.out rfl HONE.out) (fun _ hk => hk.elim) HB.out ?_; intro w7 hr7 hb7 hg7; have HR7 := Aside0.mk hr7; have HB7 := Aside0.mk hb7; have HG7 := Aside0.mk hg7; have KT7 := bgrown KT hg7 dg0; have KR7 := bgrown KR hg7 dg2; replace zt := z2 KT7; replace zr := z2 KR7; clear hr7 hb7 hg7)
  have hr7 := HR7.out
  rw [Int.toNat_natCast] at hr7
  have hs7 := s_set (okf := fun k => w.heap.size + 3 ≤ k) (N := w2.heap.size) hr7 HRL.out hit HM.out HX.out HP.out (fun k hk => hk.2) (fun k hk => hk.1) (fun k hk => by rcases hk with h | h; exact h.1; have := h.1; omega) (fun k hne hlt => HG7.out.block k hlt hne)
  have hres : setP (⟨y0, y1, y2, y3, y4, y5⟩ : S51) t1 = t1.set i ⟨y0, y1, y2, y3, y4, y5⟩ := by
   unfold setP
   dsimp only
   rw [hp, if_pos (by omega), Int.toNat_natCast]
  rw [HR1.out] at hres
  rw [← hres] at hs7
  have HS7 := Aside0.mk hs7
  clear hs7 hr7 hres
  try simp only [Exit.inBlock, Exit.then]
  refine bodyPost_ret (results_cell_row rfl _ _ (w.heap.size + 1 + 1) 26 #[.slice (some ⟨g, 0, none⟩) t1.length c, .int .i64 t2] (0, 0) _ rfl (by refine blk_put (cs := #[.slice (some ⟨g, 0, none⟩) t1.length c, .int .i64 0]) ?_ 1 _ rfl; refine blk_put (cs := #[.slice none 0 0, .int .i64 0]) ?_ 0 _ rfl; exact KR7.out) Tryz.underlying26 rfl (by kernel_rfl)) rfl ?_
  refine ⟨_, rfl, ?_, ?_⟩
  ·exact Kd.S_mono (Kd.S_far (Kd.S_far HS7.out (fun k hk => by dsimp only; omega) _) (fun k hk => by dsimp only; omega) _) (fun _ _ => trivial)
  ·exact (HB7.out.setCell (by dsimp only; omega) _).setCell (by dsimp only; omega) _
 case inl =>
  rw [hp]
  go_wp2_with fail
  refine (setOf2.calls y0 A c t1 (w.heap.size + 1) w6 (Kd.S_reads' S6.out).2.2 (blk_lt KI.out) zi.1.1 (by have := HL.out; omega)).mono ?_
  rintro e w7 ⟨rfl, hb⟩
  have N67 := Aside0.mk hb.size
  have HW67 := Aside0.mk hb
  replace KT := Aside0.mk (blk_below KT.out hb)
  replace KI := Aside0.mk (blk_below KI.out hb)
  replace KR := Aside0.mk (blk_below KR.out hb)
  replace HB := Aside0.mk (below_step HB.out hb)
  replace HRAW := Aside0.mk (Kd.R_below HRAW.out hb)
  have HONE := Aside0.mk (k51.K_one (k51.K_of_M HX.out))
  have HVB := Aside0.mk (show some w7.heap.size ≠ (Value.slice A t1.length c).ownBlock from fun he => by have := Kd.R_lt HRAW.out _ he.symm; omega)
  have HWB := Aside0.mk (show w.heap.size ≤ (w7.alloc (.cells #[.int .i64 y0, .int .i64 y1, .int .i64 y2, .slice A3 y3.length c3, .slice A4 y4.length c4, .slice A5 y5.length c5] 51)).heap.size by have := N67.out; rw [World.size_alloc]; omega)
  have HLB := Aside0.mk (show (t1.length + 1) * 96 ≤ 140737488355328 by have := HL.out; omega)
  have NT := Aside0.mk (show some w.heap.size ≠ (Value.slice A t1.length c).ownBlock from fun he => by have := (HP.out _ he.symm).1; omega)
  have NR := Aside0.mk (show some (w.heap.size + 1 + 1) ≠ (Value.slice A t1.length c).ownBlock from fun he => by have := (HP.out _ he.symm).1; omega)
  clear hb S6
  have KT0 := KT
  replace KT := Aside0.mk (blk_alloc KT.out (.cells #[.int .i64 y0, .int .i64 y1, .int .i64 y2, .slice A3 y3.length c3, .slice A4 y4.length c4, .slice A5 y5.length c5] 51))
  replace KR := Aside0.mk (blk_alloc KR.out (.cells #[.int .i64 y0, .int .i64 y1, .int .i64 y2, .slice A3 y3.length c3, .slice A4 y4.length c4, .slice A5 y5.length c5] 51))
  have zt' := z2 KT
  have zi := z6 KI
  have zt := z2 KT0
  rcases gtR_spec y0 t1 0 with hgt | ⟨j, hgt, hjt⟩
  case inl =>
   rw [hgt]
   have HJ := Aside0.mk (Nat.le_refl t1.length)
   go_wp2_with (go_at_call 75; refine (insInode.calls A t1.length c t1.length w7.heap.size w.heap.size (fun k => (Value.slice A t1.length c).ownBlock = some k) rows [.int .i64 y0, .int .i64 y1, .int .i64 y2, .slice A3 y3.length c3, .slice A4 y4.length c4, .slice A5 y5.length c5] w _ HJ.out HRL.out (Kd.R_below HRAW.out (below_alloc (Below.refl _ _) _)) (blk_new w7 _) HVB.out rfl HONE.out (below_alloc HB.out _) HWB.out HLB.out).mono ?_; rintro e w8 ⟨v', rfl, hr8, hb8, hg8, hat8⟩; have HR8 := Aside0.mk hr8; have HB8 := Aside0.mk hb8; have HG8 := Aside0.mk hg8; have HA8 := Aside0.mk hat8; have KT8 := bgrownV KT hg8 NT.out; have KR8 := bgrownV KR hg8 NR.out; replace zt := z2 KT8; replace zr := z2 KR8; obtain ⟨A', n', c', rfl⟩ : ∃ A' n' c', v' = Value.slice A' n' c' := (by obtain ⟨A', c', hs⟩ := Kd.R_slice hr8; exact ⟨_, _, _, hs⟩); clear hr8 hb8 hg8 hat8)
   have hs8 := s_ins (okf := fun k => w.heap.size + 3 ≤ k) (N := w2.heap.size) (N2 := w6.heap.size) HR8.out HRL.out HJ.out HM.out HX.out HP.out (by rcases HA8.out with h | ⟨b, h, hb⟩; exact .inl h; exact .inr ⟨b, h, by have := N67.out; rw [World.size_alloc] at hb; omega⟩) (fun k hk => hk.2) (fun k hk => ⟨hk.1, by have := hk.2; omega⟩) (by omega) (fun k hk => by rcases hk with h | h | h; exact h.1; have := h.1; omega; omega) (fun k hne hlt => by rw [HG8.out.block k (by have := N67.out; rw [World.size_alloc]; omega) hne, Below.heap_alloc _ _ _ (by have := N67.out; omega)]; exact HW67.out.block k hlt)
   have hres : setP (⟨y0, y1, y2, y3, y4, y5⟩ : S51) t1 = t1.take t1.length ++ [⟨y0, y1, y2, y3, y4, y5⟩] ++ t1.drop t1.length := by
    unfold setP gtP
    dsimp only
    rw [hp, if_neg (by omega)]
    rw [if_pos (by rw [hgt]; omega)]
   rw [HR1.out] at hres
   rw [← hres] at hs8
   have HS8 := Aside0.mk hs8
   clear hs8 hres
   try simp only [Exit.inBlock, Exit.then]
   refine bodyPost_ret (results_cell_row rfl _ _ (w.heap.size + 1 + 1) 26 #[.slice A' n' c', .int .i64 t2] (0, 0) _ rfl (by refine blk_put (cs := #[.slice A' n' c', .int .i64 0]) ?_ 1 _ rfl; refine blk_put (cs := #[.slice none 0 0, .int .i64 0]) ?_ 0 _ rfl; rw [Below.heap_setCell _ _ _ _ (by simp; omega)]; exact KR8.out) Tryz.underlying26 rfl (by kernel_rfl)) rfl ?_
   refine ⟨_, rfl, ?_, ?_⟩
   ·exact Kd.S_mono (Kd.S_far (Kd.S_far (Kd.S_far HS8.out (fun k hk => by dsimp only; omega) _) (fun k hk => by dsimp only; omega) _) (fun k hk => by dsimp only; omega) _) (fun _ _ => trivial)
   ·exact ((HB8.out.setCell (by dsimp only; omega) _).setCell (by dsimp only; omega) _).setCell (by dsimp only; omega) _
  case inr =>
   rw [Nat.zero_add] at hgt
   rw [hgt]
   have HJ := Aside0.mk (Nat.le_of_lt hjt)
   go_wp2_with (go_at_call 75; refine (insInode.calls A t1.length c j w7.heap.size w.heap.size (fun k => (Value.slice A t1.length c).ownBlock = some k) rows [.int .i64 y0, .int .i64 y1, .int .i64 y2, .slice A3 y3.length c3, .slice A4 y4.length c4, .slice A5 y5.length c5] w _ HJ.out HRL.out (Kd.R_below HRAW.out (below_alloc (Below.refl _ _) _)) (blk_new w7 _) HVB.out rfl HONE.out (below_alloc HB.out _) HWB.out HLB.out).mono ?_; rintro e w8 ⟨v', rfl, hr8, hb8, hg8, hat8⟩; have HR8 := Aside0.mk hr8; have HB8 := Aside0.mk hb8; have HG8 := Aside0.mk hg8; have HA8 := Aside0.mk hat8; have KT8 := bgrownV KT hg8 NT.out; have KR8 := bgrownV KR hg8 NR.out; replace zt := z2 KT8; replace zr := z2 KR8; obtain ⟨A', n', c', rfl⟩ : ∃ A' n' c', v' = Value.slice A' n' c' := (by obtain ⟨A', c', hs⟩ := Kd.R_slice hr8; exact ⟨_, _, _, hs⟩); clear hr8 hb8 hg8 hat8)
   have hs8 := s_ins (okf := fun k => w.heap.size + 3 ≤ k) (N := w2.heap.size) (N2 := w6.heap.size) HR8.out HRL.out HJ.out HM.out HX.out HP.out (by rcases HA8.out with h | ⟨b, h, hb⟩; exact .inl h; exact .inr ⟨b, h, by have := N67.out; rw [World.size_alloc] at hb; omega⟩) (fun k hk => hk.2) (fun k hk => ⟨hk.1, by have := hk.2; omega⟩) (by omega) (fun k hk => by rcases hk with h | h | h; exact h.1; have := h.1; omega; omega) (fun k hne hlt => by rw [HG8.out.block k (by have := N67.out; rw [World.size_alloc]; omega) hne, Below.heap_alloc _ _ _ (by have := N67.out; omega)]; exact HW67.out.block k hlt)
   have hres : setP (⟨y0, y1, y2, y3, y4, y5⟩ : S51) t1 = t1.take j ++ [⟨y0, y1, y2, y3, y4, y5⟩] ++ t1.drop j := by
    unfold setP gtP
    dsimp only
    rw [hp, if_neg (by omega)]
    rw [if_neg (by rw [hgt]; omega), hgt, Int.toNat_natCast]
   rw [HR1.out] at hres
   rw [← hres] at hs8
   have HS8 := Aside0.mk hs8
   clear hs8 hres
   try simp only [Exit.inBlock, Exit.then]
   refine bodyPost_ret (results_cell_row rfl _ _ (w.heap.size + 1 + 1) 26 #[.slice A' n' c', .int .i64 t2] (0, 0) _ rfl (by refine blk_put (cs := #[.slice A' n' c', .int .i64 0]) ?_ 1 _ rfl; refine blk_put (cs := #[.slice none 0 0, .int .i64 0]) ?_ 0 _ rfl; rw [Below.heap_setCell _ _ _ _ (by simp; omega)]; exact KR8.out) Tryz.underlying26 rfl (by kernel_rfl)) rfl ?_
   refine ⟨_, rfl, ?_, ?_⟩
   ·exact Kd.S_mono (Kd.S_far (Kd.S_far (Kd.S_far HS8.out (fun k hk => by dsimp only; omega) _) (fun k hk => by dsimp only; omega) _) (fun k hk => by dsimp only; omega) _) (fun _ _ => trivial)
   ·exact ((HB8.out.setCell (by dsimp only; omega) _).setCell (by dsimp only; omega) _).setCell (by dsimp only; omega) _
/-! ### impl_EntOf: function 58 -/
def impl_EntOf.l0 : Nat → ByteArray → List (S65) → Int → Int → Option (Int)
 | 0, _, _, _, _ => none
 | k + 1, x1, x8, x9, x10 => if x10 < x9 then (if 0 ≤ x10 then (if x10 < (x8.length : Int) then (if ((rd_T65 x8 x10).f0).toList = x1.toList then (some ((rd_T65 x8 x10).f1)) else (impl_EntOf.l0 k x1 x8 x9 (wrap64 (x10 + 1)))) else (none)) else (none)) else (some 0)
def impl_EntOf.f (k : Nat) (a0_0 : Int) (a0_1 : Int) (a0_2 : Int) (l0_3 : List Int) (l0_4 : List (S65)) (l0_5 : List (S71)) (a1 : ByteArray) : Option (Int) := impl_EntOf.l0 k a1 l0_4 (l0_4.length : Int) 0
set_option maxHeartbeats 8000000 in
set_option maxRecDepth 100000 in
theorem impl_EntOf.calls (k : Nat) (a0_0 : Int) (a0_1 : Int) (a0_2 : Int) (A0_3 : Option Addr) (c0_3 : Nat) (l0_3 : List Int) (A0_4 : Option Addr) (c0_4 : Nat) (l0_4 : List (S65)) (A0_5 : Option Addr) (c0_5 : Nat) (l0_5 : List (S71)) (a1 : ByteArray) (r : Int) (w : World) (hr0_3 : Kd.C (Kd.int .u8) w A0_3 l0_3.length l0_3) (hc0_3 : l0_3.length ≤ c0_3) (hr0_4 : Kd.C k65 w A0_4 l0_4.length l0_4) (hc0_4 : l0_4.length ≤ c0_4) (hr0_5 : Kd.C k71 w A0_5 l0_5.length l0_5) (hc0_5 : l0_5.length ≤ c0_5) (h : impl_EntOf.f k a0_0 a0_1 a0_2 l0_3 l0_4 l0_5 a1 = some r) :
  Calls Tryz.prog 58 #[.agg #[.int .i64 a0_0, .int .i64 a0_1, .int .i64 a0_2, .slice A0_3 l0_3.length c0_3, .slice A0_4 l0_4.length c0_4, .slice A0_5 l0_5.length c0_5], .string a1] w fun e w' => e = .returned (.int .i64 r) ∧ Below w.heap.size w w' := by
 have hu51 := Tryz.underlying51
 have hu65 := Tryz.underlying65
 have HR0_3 := Aside0.mk hr0_3
 have HC0_3 := Aside0.mk hc0_3
 clear hr0_3 hc0_3
 have HR0_4 := Aside0.mk hr0_4
 have HC0_4 := Aside0.mk hc0_4
 clear hr0_4 hc0_4
 have HR0_5 := Aside0.mk hr0_5
 have HC0_5 := Aside0.mk hc0_5
 clear hr0_5 hc0_5
 have HB := Aside0.mk (Below.refl w.heap.size w)
 unfold impl_EntOf.f at h
 have H := h
 clear h
 have H' := Aside0.mk H
 clear H
 go_enter Tryz.func58, Tryz.ntmps58
 go_wp2_with (first | ((with_reducible refine gate_dst (N := 2) rfl ?_); refine bx_ 2 #[.int .i64 a0_0, .int .i64 a0_1, .int .i64 a0_2, .slice A0_3 l0_3.length c0_3, .slice A0_4 l0_4.length c0_4, .slice A0_5 l0_5.length c0_5] 51 ?_; intro gb278 hg w3 hbox hb; have BK278 := Aside0.mk (hbox); have GW278 := gs_ hg; replace HB := Aside0.mk (below_step oB hb); clear hb hbox hg; obtain ⟨⟨_, _, _, _, _, _⟩, _, _, _, _, _, _⟩ := z6 BK278))
 go_loopg [10] k (fun kq v10 w' => ∃ (x10_1 : Int), v10 = .int .i64 x10_1 ∧ Aside0 (impl_EntOf.l0 kq a1 l0_4 (l0_4.length : Int) x10_1 = some r) ∧ Aside0 (kq ≤ k) ∧ Aside0 (w'.heap[gb278]? = some (.cells #[.int .i64 a0_0, .int .i64 a0_1, .int .i64 a0_2, (.slice A0_3 l0_3.length c0_3), (.slice A0_4 l0_4.length c0_4), (.slice A0_5 l0_5.length c0_5)] 51 (0, 0))) ∧ Aside0 (Below w.heap.size w w'))
 case atStart => exact ⟨(0), oS, H', ⟨Nat.le_refl _⟩, ⟨oF BK278⟩, ⟨oB⟩⟩
 case round =>
  clear H'
  obtain ⟨x10_1, rfl, HA, HK1, BK278, HB⟩ := hrel
  cases gk with
  | zero => exact absurd HA.out (by simp [impl_EntOf.l0])
  | succ k1 =>
   have H := HA.out
   clear HA
   simp only [impl_EntOf.l0] at H
   replace H := itD H
   rcases H with ⟨c5b0, H⟩ | ⟨c5b0, H⟩
   ·replace H := itD H
    rcases H with ⟨c6b0, H⟩ | ⟨c6b0, H⟩
    ·replace H := itD H
     rcases H with ⟨c7b0, H⟩ | ⟨c7b0, H⟩
     ·by_cases c8 : ((rd_T65 l0_4 x10_1).f0).toList = a1.toList
      ·rw [if_pos c8] at H
       have c8b0 : (((rd_T65 l0_4 x10_1).f0).toList == a1.toList) = true := beq_iff_eq.mpr c8
       have c8b1 : (((rd_T65 l0_4 x10_1).f0).toList != a1.toList) = false := bne_eq_false_iff_eq.mpr c8
       clear c8
       obtain rfl := Option.some.inj H
       have p279 : (0 ≤ (x10_1 : Int)) = True := oT
       have q279 : (x10_1 < (l0_4.length : Int)) = True := oT
       obtain ⟨ad279, e279, hx279_0, hx279_1⟩ := at_T65 HR0_4.out x10_1 oa oa
       cases e279
       replace hx279_0 := cB HB hx279_0
       replace hx279_1 := cB HB hx279_1
       go_wp2_with (first | ((with_reducible refine gate_dst (N := 6) rfl ?_); refine bx_ 6 #[.string (⟨#[]⟩ : ByteArray), .int .i64 0] 65 ?_; intro gb280 hg w9 hbox hb; have BK280 := Aside0.mk (hbox); have GW280 := gs_ hg; have NB278_280 := nl_ hg BK278; have NB280_278 := nr_ hg BK278; replace BK278 := kb_ BK278 hb; replace HB := Aside0.mk (below_step oB hb); clear hb hbox hg; have hnb10 := NB280_278.out; have hnc10 := NB278_280.out; obtain ⟨⟨_, _⟩, _, _⟩ := z2 BK280))
       go_ret
       exact ⟨oE, oB⟩
      ·rw [if_neg c8] at H
       have c8b0 : (((rd_T65 l0_4 x10_1).f0).toList == a1.toList) = false := beq_eq_false_iff_ne.mpr c8
       have c8b1 : (((rd_T65 l0_4 x10_1).f0).toList != a1.toList) = true := bne_iff_ne.mpr c8
       have H' := Aside0.mk H
       clear H
       have p279 : (0 ≤ (x10_1 : Int)) = True := oT
       have q279 : (x10_1 < (l0_4.length : Int)) = True := oT
       obtain ⟨ad279, e279, hx279_0, hx279_1⟩ := at_T65 HR0_4.out x10_1 oa oa
       cases e279
       replace hx279_0 := cB HB hx279_0
       replace hx279_1 := cB HB hx279_1
       go_wp2_with (first | ((with_reducible refine gate_dst (N := 6) rfl ?_); refine bx_ 6 #[.string (⟨#[]⟩ : ByteArray), .int .i64 0] 65 ?_; intro gb280 hg w12 hbox hb; have BK280 := Aside0.mk (hbox); have GW280 := gs_ hg; have NB278_280 := nl_ hg BK278; have NB280_278 := nr_ hg BK278; replace BK278 := kb_ BK278 hb; replace HB := Aside0.mk (below_step oB hb); clear hb hbox hg; have hnb13 := NB280_278.out; have hnc13 := NB278_280.out; obtain ⟨⟨_, _⟩, _, _⟩ := z2 BK280))
       go_roundg k1
       case measure => have := HK1.out; omega
       case rel => exact ⟨(wrap64 (x10_1 + 1)), oS, H', ⟨by have := HK1.out; omega⟩, ⟨oF BK278⟩, ⟨oB⟩⟩
     ·cases H
    ·cases H
   ·obtain rfl := Option.some.inj H
    go_wp2
    go_ret
    exact ⟨oE, oB⟩

/-! ### impl_Walk: function 31 -/
def impl_Walk.l0 : Nat → Int → List ByteArray → Int → Int → List (S51) → Int → Option (Int × Int)
 | 0, _, _, _, _, _, _ => none
 | k + 1, x8, x20, x21, x22, x282000, x282001 => if x22 < x21 then (if 0 ≤ x22 then (if x22 < (x20.length : Int) then ((impl_InodeAt.f k x282000 x282001 x8).bind fun bt287 => (if bt287.2.2.2.2.2.2 = true then (if bt287.2.1 = 2 then ((impl_EntOf.f k bt287.1 bt287.2.1 bt287.2.2.1 bt287.2.2.2.1 bt287.2.2.2.2.1 bt287.2.2.2.2.2.1 (rdOf ByteArray.empty x20 x22)).bind fun t301 => (if t301 = 0 then (some (0, 2)) else (impl_Walk.l0 k t301 x20 x21 (wrap64 (x22 + 1)) x282000 x282001))) else (some (0, 3))) else (some (0, 2)))) else (none)) else (none)) else (some (x8, 0))
def impl_Walk.f (k : Nat) (l0_0 : List (S51)) (a0_1 : Int) (a1 : ByteArray) : Option (Int × Int) := (impl_SplitPath.f k a1).bind fun bt282 => (if bt282.2 = true then (impl_Walk.l0 k 1 bt282.1 (bt282.1.length : Int) 0 l0_0 a0_1) else (some (0, 1)))
set_option maxHeartbeats 8000000 in
set_option maxRecDepth 100000 in
theorem impl_Walk.calls (k : Nat) (A0_0 : Option Addr) (c0_0 : Nat) (l0_0 : List (S51)) (a0_1 : Int) (a1 : ByteArray) (r1 : Int) (r2 : Int) (w : World) (hr0_0 : Kd.C k51 w A0_0 l0_0.length l0_0) (hc0_0 : l0_0.length ≤ c0_0) (h : impl_Walk.f k l0_0 a0_1 a1 = some (r1, r2)) (hG : GOk w := by exact gk_ oB (by first | (with_reducible assumption) | assumption)) :
  Calls Tryz.prog 31 #[.agg #[.slice A0_0 l0_0.length c0_0, .int .i64 a0_1], .string a1] w fun e w' => e = .returned (.tuple #[.int .i64 r1, .int .i64 r2]) ∧ Below w.heap.size w w' := by
 have HG := Aside0.mk hG
 clear hG
 have hu26 := Tryz.underlying26
 have hu51 := Tryz.underlying51
 have HR0_0 := Aside0.mk hr0_0
 have HC0_0 := Aside0.mk hc0_0
 clear hr0_0 hc0_0
 have HB := Aside0.mk (Below.refl w.heap.size w)
 unfold impl_Walk.f at h
 have H := h
 clear h
 replace H := bA H
 obtain ⟨⟨t282, t283⟩, A3, H⟩ := H
 try dsimp only at H
 replace H := itB H
 rcases H with ⟨rfl, H⟩ | ⟨rfl, H⟩
 ·have H' := Aside0.mk H
  clear H
  go_enter Tryz.func31, Tryz.ntmps31
  go_wp2_with (first | ((with_reducible refine gate_dst (N := 2) rfl ?_); refine bx_ 2 #[.slice A0_0 l0_0.length c0_0, .int .i64 a0_1] 26 ?_; intro gb281 hg w5 hbox hb; have BK281 := Aside0.mk (hbox); have GW281 := gs_ hg; replace HB := Aside0.mk (below_step oB hb); clear hb hbox hg) | ((with_reducible refine gate_callee (f := 16) rfl ?_); refine gl_ 15 Tryz.func16 (impl_SplitPath.calls k a1 t282 true _ A3.out) ?_; rintro e w6 ⟨v284, rfl, ho0, hb⟩; refine ⟨_, rfl, ?_⟩; have HO285 := Aside0.mk (Kd.Q_lower ho0 (below_size oB)); replace BK281 := kb_ BK281 hb; replace HB := Aside0.mk (below_step oB hb); obtain ⟨Ao7, co7, eo7, _⟩ := Kd.Q_slice HO285.out; subst eo7))
  go_loopg [8, 22] k (fun kq v8 v22 w' => ∃ (x8_1 : Int) (x22_1 : Int), v8 = .int .i64 x8_1 ∧ v22 = .int .i64 x22_1 ∧ Aside0 (impl_Walk.l0 kq x8_1 t282 (t282.length : Int) x22_1 l0_0 a0_1 = some (r1, r2)) ∧ Aside0 (kq ≤ k) ∧ Aside0 (Kd.Q Kd.string 9 w' w.heap.size (fun _ => True) (.slice Ao7 t282.length co7) t282) ∧ Aside0 (w'.heap[gb281]? = some (.cells #[(.slice A0_0 l0_0.length c0_0), .int .i64 a0_1] 26 (0, 0))) ∧ Aside0 (Below w.heap.size w w'))
  case atStart => exact ⟨(1), (0), oS, oS, H', ⟨Nat.le_refl _⟩, ⟨by (with_reducible repeat (first | apply Kd.Q_alloc | apply Kd.Q_drewN | apply Kd.Q_drew)); exact HO285.out⟩, ⟨oF BK281⟩, ⟨oB⟩⟩
  case round =>
   clear H'
   obtain ⟨x8_1, x22_1, rfl, rfl, HA, HK1, HO_20, BK281, HB⟩ := hrel
   cases gk with
   | zero => exact absurd HA.out (by simp [impl_Walk.l0])
   | succ k1 =>
    have H := HA.out
    clear HA
    simp only [impl_Walk.l0] at H
    replace H := itD H
    rcases H with ⟨c8b0, H⟩ | ⟨c8b0, H⟩
    ·replace H := itD H
     rcases H with ⟨c9b0, H⟩ | ⟨c9b0, H⟩
     ·replace H := itD H
      rcases H with ⟨c10b0, H⟩ | ⟨c10b0, H⟩
      ·replace H := bA H
       obtain ⟨⟨t287, t288, t289, t290, t293, t296, t299⟩, A11, H⟩ := H
       try dsimp only at H
       replace H := itB H
       rcases H with ⟨rfl, H⟩ | ⟨rfl, H⟩
       ·by_cases c13 : t288 = 2
        ·rw [if_pos c13] at H
         have c13b0 : (t288 == 2) = true := beq_iff_eq.mpr c13
         have c13b1 : (t288 != 2) = false := bne_eq_false_iff_eq.mpr c13
         clear c13
         replace H := bA H
         obtain ⟨t301, A14, H⟩ := H
         try dsimp only at H
         by_cases c15 : t301 = 0
         ·rw [if_pos c15] at H
          have c15b0 : (t301 == 0) = true := beq_iff_eq.mpr c15
          have c15b1 : (t301 != 0) = false := bne_eq_false_iff_eq.mpr c15
          clear c15
          simp only [Option.some.injEq, Prod.mk.injEq] at H
          obtain ⟨rfl, rfl⟩ := H
          have p286 : (0 ≤ (x22_1 : Int)) = True := oT
          have q286 : (x22_1 < (t282.length : Int)) = True := oT
          obtain ⟨ad286, e286, hx286_0⟩ := Kd.at_string (Kd.Q_reads' HO_20.out).2.2 x22_1 oa oa
          cases e286
          obtain ⟨⟨_, _⟩, _, _⟩ := z2 BK281
          go_wp2_with (first | ((with_reducible refine gate_callee (f := 42) rfl ?_); refine gl_ 29 Tryz.func42 (impl_InodeAt.calls k1 _ _ l0_0 a0_1 x8_1 t287 t288 t289 t290 t293 t296 true _ (kC HR0_0) HC0_0.out A11.out) ?_; rintro e w17 ⟨v291, v294, v297, rfl, ho0, ho1, ho2, hb⟩; refine ⟨_, rfl, ?_⟩; have HO292 := Aside0.mk (Kd.R_lower ho0 (below_size oB)); have HO295 := Aside0.mk (Kd.R_lower ho1 (below_size oB)); have HO298 := Aside0.mk (Kd.R_lower ho2 (below_size oB)); replace HO_20 := beQ0 HO_20 hb; replace BK281 := kb_ BK281 hb; replace HB := Aside0.mk (below_step oB hb); (try clear ho1); (try clear ho2)) | ((with_reducible refine gate_dst (N := 11) rfl ?_); refine bx_ 11 #[.int .i64 0, .int .i64 0, .int .i64 0, .slice none 0 0, .slice none 0 0, .slice none 0 0] 51 ?_; intro gb300 hg w18 hbox hb; have BK300 := Aside0.mk (hbox); have GW300 := gs_ hg; have NB281_300 := nl_ hg BK281; have NB300_281 := nr_ hg BK281; replace HO_20 := beQ0 HO_20 hb; replace HO292 := kr_ HO292 hb; replace HO295 := kr_ HO295 hb; replace HO298 := kr_ HO298 hb; replace BK281 := kb_ BK281 hb; replace HB := Aside0.mk (below_step oB hb); clear hb hbox hg; have hnb19 := NB300_281.out; have hnc19 := NB281_300.out; obtain ⟨⟨_, _, _, _, _, _⟩, _, _, _, _, _, _⟩ := z6 BK300; obtain ⟨Ao21, co21, eo21⟩ := Kd.R_slice HO292.out; subst eo21; obtain ⟨Ao22, co22, eo22⟩ := Kd.R_slice HO295.out; subst eo22; obtain ⟨Ao23, co23, eo23⟩ := Kd.R_slice HO298.out; subst eo23) | ((with_reducible refine gate_callee (f := 58) rfl ?_); refine gl_ 41 Tryz.func58 (impl_EntOf.calls k1 t287 t288 t289 _ _ t290 _ _ t293 _ _ t296 (rdOf ByteArray.empty t282 x22_1) t301 _ (rcR1 HO292 BK300) (ko HO292) (rcR1 HO295 BK300) (ko HO295) (rcR1 HO298 BK300) (ko HO298) A14.out) ?_; rintro e w24 ⟨rfl, hb⟩; refine ⟨_, rfl, ?_⟩; replace HO_20 := beQ1 HO_20 BK300 hb; replace HO292 := beR1 HO292 BK300 hb; replace HO295 := beR1 HO295 BK300 hb; replace HO298 := beR1 HO298 BK300 hb; replace BK281 := kb_ BK281 hb; replace BK300 := kp_ #[.int .i64 t287, .int .i64 t288, .int .i64 t289, .slice Ao21 t290.length co21, .slice Ao22 t293.length co22, .slice Ao23 t296.length co23] BK300 hb; replace HB := Aside0.mk (below_step oB hb); (try clear hk)))
          go_ret2
          exact ⟨oE, oB⟩
         ·rw [if_neg c15] at H
          have c15b0 : (t301 == 0) = false := beq_eq_false_iff_ne.mpr c15
          have c15b1 : (t301 != 0) = true := bne_iff_ne.mpr c15
          have H' := Aside0.mk H
          clear H
          have p286 : (0 ≤ (x22_1 : Int)) = True := oT
          have q286 : (x22_1 < (t282.length : Int)) = True := oT
          obtain ⟨ad286, e286, hx286_0⟩ := Kd.at_string (Kd.Q_reads' HO_20.out).2.2 x22_1 oa oa
          cases e286
          obtain ⟨⟨_, _⟩, _, _⟩ := z2 BK281
          go_wp2_with (first | ((with_reducible refine gate_callee (f := 42) rfl ?_); refine gl_ 29 Tryz.func42 (impl_InodeAt.calls k1 _ _ l0_0 a0_1 x8_1 t287 t288 t289 t290 t293 t296 true _ (kC HR0_0) HC0_0.out A11.out) ?_; rintro e w26 ⟨v291, v294, v297, rfl, ho0, ho1, ho2, hb⟩; refine ⟨_, rfl, ?_⟩; have HO292 := Aside0.mk (Kd.R_lower ho0 (below_size oB)); have HO295 := Aside0.mk (Kd.R_lower ho1 (below_size oB)); have HO298 := Aside0.mk (Kd.R_lower ho2 (below_size oB)); replace HO_20 := beQ0 HO_20 hb; replace BK281 := kb_ BK281 hb; replace HB := Aside0.mk (below_step oB hb); (try clear ho1); (try clear ho2)) | ((with_reducible refine gate_dst (N := 11) rfl ?_); refine bx_ 11 #[.int .i64 0, .int .i64 0, .int .i64 0, .slice none 0 0, .slice none 0 0, .slice none 0 0] 51 ?_; intro gb300 hg w27 hbox hb; have BK300 := Aside0.mk (hbox); have GW300 := gs_ hg; have NB281_300 := nl_ hg BK281; have NB300_281 := nr_ hg BK281; replace HO_20 := beQ0 HO_20 hb; replace HO292 := kr_ HO292 hb; replace HO295 := kr_ HO295 hb; replace HO298 := kr_ HO298 hb; replace BK281 := kb_ BK281 hb; replace HB := Aside0.mk (below_step oB hb); clear hb hbox hg; have hnb28 := NB300_281.out; have hnc28 := NB281_300.out; obtain ⟨⟨_, _, _, _, _, _⟩, _, _, _, _, _, _⟩ := z6 BK300; obtain ⟨Ao30, co30, eo30⟩ := Kd.R_slice HO292.out; subst eo30; obtain ⟨Ao31, co31, eo31⟩ := Kd.R_slice HO295.out; subst eo31; obtain ⟨Ao32, co32, eo32⟩ := Kd.R_slice HO298.out; subst eo32) | ((with_reducible refine gate_callee (f := 58) rfl ?_); refine gl_ 41 Tryz.func58 (impl_EntOf.calls k1 t287 t288 t289 _ _ t290 _ _ t293 _ _ t296 (rdOf ByteArray.empty t282 x22_1) t301 _ (rcR1 HO292 BK300) (ko HO292) (rcR1 HO295 BK300) (ko HO295) (rcR1 HO298 BK300) (ko HO298) A14.out) ?_; rintro e w33 ⟨rfl, hb⟩; refine ⟨_, rfl, ?_⟩; replace HO_20 := beQ1 HO_20 BK300 hb; replace HO292 := beR1 HO292 BK300 hb; replace HO295 := beR1 HO295 BK300 hb; replace HO298 := beR1 HO298 BK300 hb; replace BK281 := kb_ BK281 hb; replace BK300 := kp_ #[.int .i64 t287, .int .i64 t288, .int .i64 t289, .slice Ao30 t290.length co30, .slice Ao31 t293.length co31, .slice Ao32 t296.length co32] BK300 hb; replace HB := Aside0.mk (below_step oB hb); (try clear hk)))
          go_roundg k1
          case measure => have := HK1.out; omega
          case rel => exact ⟨(t301), (wrap64 (x22_1 + 1)), oS, oS, H', ⟨by have := HK1.out; omega⟩, ⟨by (with_reducible repeat (first | apply Kd.Q_alloc | apply Kd.Q_drewN | apply Kd.Q_drew)); exact HO_20.out⟩, ⟨oF BK281⟩, ⟨oB⟩⟩
        ·rw [if_neg c13] at H
         have c13b0 : (t288 == 2) = false := beq_eq_false_iff_ne.mpr c13
         have c13b1 : (t288 != 2) = true := bne_iff_ne.mpr c13
         simp only [Option.some.injEq, Prod.mk.injEq] at H
         obtain ⟨rfl, rfl⟩ := H
         have p286 : (0 ≤ (x22_1 : Int)) = True := oT
         have q286 : (x22_1 < (t282.length : Int)) = True := oT
         obtain ⟨ad286, e286, hx286_0⟩ := Kd.at_string (Kd.Q_reads' HO_20.out).2.2 x22_1 oa oa
         cases e286
         obtain ⟨⟨_, _⟩, _, _⟩ := z2 BK281
         go_wp2_with (first | ((with_reducible refine gate_callee (f := 42) rfl ?_); refine gl_ 29 Tryz.func42 (impl_InodeAt.calls k1 _ _ l0_0 a0_1 x8_1 t287 t288 t289 t290 t293 t296 true _ (kC HR0_0) HC0_0.out A11.out) ?_; rintro e w35 ⟨v291, v294, v297, rfl, ho0, ho1, ho2, hb⟩; refine ⟨_, rfl, ?_⟩; have HO292 := Aside0.mk (Kd.R_lower ho0 (below_size oB)); have HO295 := Aside0.mk (Kd.R_lower ho1 (below_size oB)); have HO298 := Aside0.mk (Kd.R_lower ho2 (below_size oB)); replace HO_20 := beQ0 HO_20 hb; replace BK281 := kb_ BK281 hb; replace HB := Aside0.mk (below_step oB hb); (try clear ho1); (try clear ho2)) | ((with_reducible refine gate_dst (N := 11) rfl ?_); refine bx_ 11 #[.int .i64 0, .int .i64 0, .int .i64 0, .slice none 0 0, .slice none 0 0, .slice none 0 0] 51 ?_; intro gb300 hg w36 hbox hb; have BK300 := Aside0.mk (hbox); have GW300 := gs_ hg; have NB281_300 := nl_ hg BK281; have NB300_281 := nr_ hg BK281; replace HO_20 := beQ0 HO_20 hb; replace HO292 := kr_ HO292 hb; replace HO295 := kr_ HO295 hb; replace HO298 := kr_ HO298 hb; replace BK281 := kb_ BK281 hb; replace HB := Aside0.mk (below_step oB hb); clear hb hbox hg; have hnb37 := NB300_281.out; have hnc37 := NB281_300.out; obtain ⟨⟨_, _, _, _, _, _⟩, _, _, _, _, _, _⟩ := z6 BK300; obtain ⟨Ao39, co39, eo39⟩ := Kd.R_slice HO292.out; subst eo39; obtain ⟨Ao40, co40, eo40⟩ := Kd.R_slice HO295.out; subst eo40; obtain ⟨Ao41, co41, eo41⟩ := Kd.R_slice HO298.out; subst eo41))
         go_ret2
         exact ⟨oE, oB⟩
       ·simp only [Option.some.injEq, Prod.mk.injEq] at H
        obtain ⟨rfl, rfl⟩ := H
        have p286 : (0 ≤ (x22_1 : Int)) = True := oT
        have q286 : (x22_1 < (t282.length : Int)) = True := oT
        obtain ⟨ad286, e286, hx286_0⟩ := Kd.at_string (Kd.Q_reads' HO_20.out).2.2 x22_1 oa oa
        cases e286
        obtain ⟨⟨_, _⟩, _, _⟩ := z2 BK281
        go_wp2_with (first | ((with_reducible refine gate_callee (f := 42) rfl ?_); refine gl_ 29 Tryz.func42 (impl_InodeAt.calls k1 _ _ l0_0 a0_1 x8_1 t287 t288 t289 t290 t293 t296 false _ (kC HR0_0) HC0_0.out A11.out) ?_; rintro e w43 ⟨v291, v294, v297, rfl, ho0, ho1, ho2, hb⟩; refine ⟨_, rfl, ?_⟩; have HO292 := Aside0.mk (Kd.R_lower ho0 (below_size oB)); have HO295 := Aside0.mk (Kd.R_lower ho1 (below_size oB)); have HO298 := Aside0.mk (Kd.R_lower ho2 (below_size oB)); replace HO_20 := beQ0 HO_20 hb; replace BK281 := kb_ BK281 hb; replace HB := Aside0.mk (below_step oB hb); (try clear ho1); (try clear ho2)) | ((with_reducible refine gate_dst (N := 11) rfl ?_); refine bx_ 11 #[.int .i64 0, .int .i64 0, .int .i64 0, .slice none 0 0, .slice none 0 0, .slice none 0 0] 51 ?_; intro gb300 hg w44 hbox hb; have BK300 := Aside0.mk (hbox); have GW300 := gs_ hg; have NB281_300 := nl_ hg BK281; have NB300_281 := nr_ hg BK281; replace HO_20 := beQ0 HO_20 hb; replace HO292 := kr_ HO292 hb; replace HO295 := kr_ HO295 hb; replace HO298 := kr_ HO298 hb; replace BK281 := kb_ BK281 hb; replace HB := Aside0.mk (below_step oB hb); clear hb hbox hg; have hnb45 := NB300_281.out; have hnc45 := NB281_300.out; obtain ⟨⟨_, _, _, _, _, _⟩, _, _, _, _, _, _⟩ := z6 BK300; obtain ⟨Ao47, co47, eo47⟩ := Kd.R_slice HO292.out; subst eo47; obtain ⟨Ao48, co48, eo48⟩ := Kd.R_slice HO295.out; subst eo48; obtain ⟨Ao49, co49, eo49⟩ := Kd.R_slice HO298.out; subst eo49))
        go_ret2
        exact ⟨oE, oB⟩
      ·cases H
     ·cases H
    ·simp only [Option.some.injEq, Prod.mk.injEq] at H
     obtain ⟨rfl, rfl⟩ := H
     go_wp2
     go_ret2
     exact ⟨oE, oB⟩
 ·simp only [Option.some.injEq, Prod.mk.injEq] at H
  obtain ⟨rfl, rfl⟩ := H
  go_enter Tryz.func31, Tryz.ntmps31
  go_wp2_with (first | ((with_reducible refine gate_dst (N := 2) rfl ?_); refine bx_ 2 #[.slice A0_0 l0_0.length c0_0, .int .i64 a0_1] 26 ?_; intro gb281 hg w50 hbox hb; have BK281 := Aside0.mk (hbox); have GW281 := gs_ hg; replace HB := Aside0.mk (below_step oB hb); clear hb hbox hg) | ((with_reducible refine gate_callee (f := 16) rfl ?_); refine gl_ 15 Tryz.func16 (impl_SplitPath.calls k a1 t282 false _ A3.out) ?_; rintro e w51 ⟨v284, rfl, ho0, hb⟩; refine ⟨_, rfl, ?_⟩; have HO285 := Aside0.mk (Kd.Q_lower ho0 (below_size oB)); replace BK281 := kb_ BK281 hb; replace HB := Aside0.mk (below_step oB hb)))
  go_ret2
  exact ⟨oE, oB⟩

/-! ### impl_Stat: function 28 -/
def impl_Stat.f (k : Nat) (l0_0 : List (S51)) (a0_1 : Int) (a1 : ByteArray) : Option (Int × Int × Int × List Int × (List (S65)) × (List (S71)) × Int) := (impl_Walk.f k l0_0 a0_1 a1).bind fun bt304 => (if bt304.2 = 0 then ((impl_InodeAt.f k l0_0 a0_1 bt304.1).bind fun bt306 => (if bt306.2.2.2.2.2.2 = true then (some (bt306.1, bt306.2.1, bt306.2.2.1, bt306.2.2.2.1, bt306.2.2.2.2.1, bt306.2.2.2.2.2.1, 0)) else (some (0, 0, 0, ([] : List Int), ([] : List (S65)), ([] : List (S71)), 2)))) else (some (0, 0, 0, ([] : List Int), ([] : List (S65)), ([] : List (S71)), bt304.2)))
set_option maxHeartbeats 8000000 in
set_option maxRecDepth 100000 in
theorem impl_Stat.calls (k : Nat) (A0_0 : Option Addr) (c0_0 : Nat) (l0_0 : List (S51)) (a0_1 : Int) (a1 : ByteArray) (r1 : Int) (r2 : Int) (r3 : Int) (r4 : List Int) (r5 : List (S65)) (r6 : List (S71)) (r7 : Int) (w : World) (hr0_0 : Kd.C k51 w A0_0 l0_0.length l0_0) (hc0_0 : l0_0.length ≤ c0_0) (h : impl_Stat.f k l0_0 a0_1 a1 = some (r1, r2, r3, r4, r5, r6, r7)) (hG : GOk w := by exact gk_ oB (by first | (with_reducible assumption) | assumption)) :
  Calls Tryz.prog 28 #[.agg #[.slice A0_0 l0_0.length c0_0, .int .i64 a0_1], .string a1] w fun e w' => ∃ v3_ v4_ v5_ : Value, e = .returned (.tuple #[.agg #[.int .i64 r1, .int .i64 r2, .int .i64 r3, v3_, v4_, v5_], .int .i64 r7]) ∧ Kd.R (Kd.int .u8) 5 w' w.heap.size (fun _ => True) v3_ r4 ∧ Kd.R k65 65 w' w.heap.size (fun _ => True) v4_ r5 ∧ Kd.R k71 71 w' w.heap.size (fun _ => True) v5_ r6 ∧ Below w.heap.size w w' := by
 have HG := Aside0.mk hG
 clear hG
 have hu26 := Tryz.underlying26
 have hu51 := Tryz.underlying51
 have HR0_0 := Aside0.mk hr0_0
 have HC0_0 := Aside0.mk hc0_0
 clear hr0_0 hc0_0
 have HB := Aside0.mk (Below.refl w.heap.size w)
 unfold impl_Stat.f at h
 have H := h
 clear h
 replace H := bA H
 obtain ⟨⟨t304, t305⟩, A3, H⟩ := H
 try dsimp only at H
 by_cases c4 : t305 = 0
 ·rw [if_pos c4] at H
  have c4b0 : (t305 == 0) = true := beq_iff_eq.mpr c4
  have c4b1 : (t305 != 0) = false := bne_eq_false_iff_eq.mpr c4
  clear c4
  replace H := bA H
  obtain ⟨⟨t306, t307, t308, t309, t312, t315, t318⟩, A5, H⟩ := H
  try dsimp only at H
  replace H := itB H
  rcases H with ⟨rfl, H⟩ | ⟨rfl, H⟩
  ·simp only [Option.some.injEq, Prod.mk.injEq] at H
   obtain ⟨rfl, rfl, rfl, rfl, rfl, rfl, rfl⟩ := H
   go_enter Tryz.func28, Tryz.ntmps28
   go_wp2_with (first | ((with_reducible refine gate_dst (N := 2) rfl ?_); refine bx_ 2 #[.slice A0_0 l0_0.length c0_0, .int .i64 a0_1] 26 ?_; intro gb302 hg w7 hbox hb; have BK302 := Aside0.mk (hbox); have GW302 := gs_ hg; replace HB := Aside0.mk (below_step oB hb); clear hb hbox hg) | ((with_reducible refine gate_dst (N := 4) rfl ?_); refine bx_ 4 #[.int .i64 0, .int .i64 0, .int .i64 0, .slice none 0 0, .slice none 0 0, .slice none 0 0] 51 ?_; intro gb303 hg w8 hbox hb; have BK303 := Aside0.mk (hbox); have GW303 := gs_ hg; have NB302_303 := nl_ hg BK302; have NB303_302 := nr_ hg BK302; replace BK302 := kb_ BK302 hb; replace HB := Aside0.mk (below_step oB hb); clear hb hbox hg; have hnb9 := NB302_303.out; have hnc9 := NB303_302.out; obtain ⟨⟨_, _⟩, _, _⟩ := z2 BK302) | ((with_reducible refine gate_callee (f := 31) rfl ?_); refine gl_ 13 Tryz.func31 (impl_Walk.calls k _ _ l0_0 a0_1 a1 t304 t305 _ (kC HR0_0) HC0_0.out A3.out) ?_; rintro e w11 ⟨rfl, hb⟩; refine ⟨_, rfl, ?_⟩; replace BK302 := kb_ BK302 hb; replace BK303 := kb_ BK303 hb; replace HB := Aside0.mk (below_step oB hb); obtain ⟨⟨_, _⟩, _, _⟩ := z2 BK302) | ((with_reducible refine gate_callee (f := 42) rfl ?_); refine gl_ 23 Tryz.func42 (impl_InodeAt.calls k _ _ l0_0 a0_1 t304 t306 t307 t308 t309 t312 t315 true _ (kC HR0_0) HC0_0.out A5.out) ?_; rintro e w13 ⟨v310, v313, v316, rfl, ho0, ho1, ho2, hb⟩; refine ⟨_, rfl, ?_⟩; have HO311 := Aside0.mk (Kd.R_lower ho0 (below_size oB)); have HO314 := Aside0.mk (Kd.R_lower ho1 (below_size oB)); have HO317 := Aside0.mk (Kd.R_lower ho2 (below_size oB)); replace BK302 := kb_ BK302 hb; replace BK303 := kb_ BK303 hb; replace HB := Aside0.mk (below_step oB hb); (try clear ho1); (try clear ho2)) | ((with_reducible refine gate_dst (N := 8) rfl ?_); refine bx_ 8 #[.int .i64 0, .int .i64 0, .int .i64 0, .slice none 0 0, .slice none 0 0, .slice none 0 0] 51 ?_; intro gb319 hg w14 hbox hb; have BK319 := Aside0.mk (hbox); have GW319 := gs_ hg; have NB302_319 := nl_ hg BK302; have NB319_302 := nr_ hg BK302; have NB303_319 := nl_ hg BK303; have NB319_303 := nr_ hg BK303; replace HO311 := kr_ HO311 hb; replace HO314 := kr_ HO314 hb; replace HO317 := kr_ HO317 hb; replace BK302 := kb_ BK302 hb; replace BK303 := kb_ BK303 hb; replace HB := Aside0.mk (below_step oB hb); clear hb hbox hg; have hnb15 := NB319_302.out; have hnc15 := NB302_319.out; have hnb16 := NB319_303.out; have hnc16 := NB303_319.out; obtain ⟨⟨_, _, _, _, _, _⟩, _, _, _, _, _, _⟩ := z6 BK319; obtain ⟨Ao18, co18, eo18⟩ := Kd.R_slice HO311.out; subst eo18; obtain ⟨Ao19, co19, eo19⟩ := Kd.R_slice HO314.out; subst eo19; obtain ⟨Ao20, co20, eo20⟩ := Kd.R_slice HO317.out; subst eo20; obtain ⟨⟨_, _, _, _, _, _⟩, _, _, _, _, _, _⟩ := z6 BK303))
   refine bodyPost_ret (results_ct rfl _ _ gb303 51 #[.int .i64 t306, .int .i64 t307, .int .i64 t308, .slice Ao18 t309.length co18, .slice Ao19 t312.length co19, .slice Ao20 t315.length co20] (0, 0) _ rfl (oP BK303) Tryz.underlying51 rfl (by kernel_rfl)) rfl ?_
   exact ⟨_, _, _, oE, by (with_reducible repeat (first | apply Kd.R_alloc | apply Kd.R_drewN | apply Kd.R_drew)); exact Kd.R_mono (Kd.R_far (p := ⟨gb303, 5, none⟩) (Kd.R_far (p := ⟨gb303, 4, none⟩) (Kd.R_far (p := ⟨gb303, 3, none⟩) (Kd.R_far (p := ⟨gb303, 2, none⟩) (Kd.R_far (p := ⟨gb303, 1, none⟩) (Kd.R_far (p := ⟨gb303, 0, none⟩) (Kd.R_far (p := ⟨gb319, 5, none⟩) (Kd.R_far (p := ⟨gb319, 4, none⟩) (Kd.R_far (p := ⟨gb319, 3, none⟩) (Kd.R_far (p := ⟨gb319, 2, none⟩) (Kd.R_far (p := ⟨gb319, 1, none⟩) (Kd.R_far (p := ⟨gb319, 0, none⟩) (Kd.R_types (Kd.R_types HO311.out BK319.out (by decide)) BK303.out (by decide)) (fun _ hk => hk.1.2) (.int .i64 t306)) (fun _ hk => hk.1.2) (.int .i64 t307)) (fun _ hk => hk.1.2) (.int .i64 t308)) (fun _ hk => hk.1.2) (.slice Ao18 t309.length co18)) (fun _ hk => hk.1.2) (.slice Ao19 t312.length co19)) (fun _ hk => hk.1.2) (.slice Ao20 t315.length co20)) (fun _ hk => hk.2) (.int .i64 t306)) (fun _ hk => hk.2) (.int .i64 t307)) (fun _ hk => hk.2) (.int .i64 t308)) (fun _ hk => hk.2) (.slice Ao18 t309.length co18)) (fun _ hk => hk.2) (.slice Ao19 t312.length co19)) (fun _ hk => hk.2) (.slice Ao20 t315.length co20)) (fun _ hk => trivial), by (with_reducible repeat (first | apply Kd.R_alloc | apply Kd.R_drewN | apply Kd.R_drew)); exact Kd.R_mono (Kd.R_far (p := ⟨gb303, 5, none⟩) (Kd.R_far (p := ⟨gb303, 4, none⟩) (Kd.R_far (p := ⟨gb303, 3, none⟩) (Kd.R_far (p := ⟨gb303, 2, none⟩) (Kd.R_far (p := ⟨gb303, 1, none⟩) (Kd.R_far (p := ⟨gb303, 0, none⟩) (Kd.R_far (p := ⟨gb319, 5, none⟩) (Kd.R_far (p := ⟨gb319, 4, none⟩) (Kd.R_far (p := ⟨gb319, 3, none⟩) (Kd.R_far (p := ⟨gb319, 2, none⟩) (Kd.R_far (p := ⟨gb319, 1, none⟩) (Kd.R_far (p := ⟨gb319, 0, none⟩) (Kd.R_types (Kd.R_types HO314.out BK319.out (by decide)) BK303.out (by decide)) (fun _ hk => hk.1.2) (.int .i64 t306)) (fun _ hk => hk.1.2) (.int .i64 t307)) (fun _ hk => hk.1.2) (.int .i64 t308)) (fun _ hk => hk.1.2) (.slice Ao18 t309.length co18)) (fun _ hk => hk.1.2) (.slice Ao19 t312.length co19)) (fun _ hk => hk.1.2) (.slice Ao20 t315.length co20)) (fun _ hk => hk.2) (.int .i64 t306)) (fun _ hk => hk.2) (.int .i64 t307)) (fun _ hk => hk.2) (.int .i64 t308)) (fun _ hk => hk.2) (.slice Ao18 t309.length co18)) (fun _ hk => hk.2) (.slice Ao19 t312.length co19)) (fun _ hk => hk.2) (.slice Ao20 t315.length co20)) (fun _ hk => trivial), by (with_reducible repeat (first | apply Kd.R_alloc | apply Kd.R_drewN | apply Kd.R_drew)); exact Kd.R_mono (Kd.R_far (p := ⟨gb303, 5, none⟩) (Kd.R_far (p := ⟨gb303, 4, none⟩) (Kd.R_far (p := ⟨gb303, 3, none⟩) (Kd.R_far (p := ⟨gb303, 2, none⟩) (Kd.R_far (p := ⟨gb303, 1, none⟩) (Kd.R_far (p := ⟨gb303, 0, none⟩) (Kd.R_far (p := ⟨gb319, 5, none⟩) (Kd.R_far (p := ⟨gb319, 4, none⟩) (Kd.R_far (p := ⟨gb319, 3, none⟩) (Kd.R_far (p := ⟨gb319, 2, none⟩) (Kd.R_far (p := ⟨gb319, 1, none⟩) (Kd.R_far (p := ⟨gb319, 0, none⟩) (Kd.R_types (Kd.R_types HO317.out BK319.out (by decide)) BK303.out (by decide)) (fun _ hk => hk.1.2) (.int .i64 t306)) (fun _ hk => hk.1.2) (.int .i64 t307)) (fun _ hk => hk.1.2) (.int .i64 t308)) (fun _ hk => hk.1.2) (.slice Ao18 t309.length co18)) (fun _ hk => hk.1.2) (.slice Ao19 t312.length co19)) (fun _ hk => hk.1.2) (.slice Ao20 t315.length co20)) (fun _ hk => hk.2) (.int .i64 t306)) (fun _ hk => hk.2) (.int .i64 t307)) (fun _ hk => hk.2) (.int .i64 t308)) (fun _ hk => hk.2) (.slice Ao18 t309.length co18)) (fun _ hk => hk.2) (.slice Ao19 t312.length co19)) (fun _ hk => hk.2) (.slice Ao20 t315.length co20)) (fun _ hk => trivial), oB⟩
  ·simp only [Option.some.injEq, Prod.mk.injEq] at H
   obtain ⟨rfl, rfl, rfl, rfl, rfl, rfl, rfl⟩ := H
   go_enter Tryz.func28, Tryz.ntmps28
   go_wp2_with (first | ((with_reducible refine gate_dst (N := 2) rfl ?_); refine bx_ 2 #[.slice A0_0 l0_0.length c0_0, .int .i64 a0_1] 26 ?_; intro gb302 hg w22 hbox hb; have BK302 := Aside0.mk (hbox); have GW302 := gs_ hg; replace HB := Aside0.mk (below_step oB hb); clear hb hbox hg) | ((with_reducible refine gate_dst (N := 4) rfl ?_); refine bx_ 4 #[.int .i64 0, .int .i64 0, .int .i64 0, .slice none 0 0, .slice none 0 0, .slice none 0 0] 51 ?_; intro gb303 hg w23 hbox hb; have BK303 := Aside0.mk (hbox); have GW303 := gs_ hg; have NB302_303 := nl_ hg BK302; have NB303_302 := nr_ hg BK302; replace BK302 := kb_ BK302 hb; replace HB := Aside0.mk (below_step oB hb); clear hb hbox hg; have hnb24 := NB302_303.out; have hnc24 := NB303_302.out; obtain ⟨⟨_, _⟩, _, _⟩ := z2 BK302) | ((with_reducible refine gate_callee (f := 31) rfl ?_); refine gl_ 13 Tryz.func31 (impl_Walk.calls k _ _ l0_0 a0_1 a1 t304 t305 _ (kC HR0_0) HC0_0.out A3.out) ?_; rintro e w26 ⟨rfl, hb⟩; refine ⟨_, rfl, ?_⟩; replace BK302 := kb_ BK302 hb; replace BK303 := kb_ BK303 hb; replace HB := Aside0.mk (below_step oB hb); obtain ⟨⟨_, _⟩, _, _⟩ := z2 BK302) | ((with_reducible refine gate_callee (f := 42) rfl ?_); refine gl_ 23 Tryz.func42 (impl_InodeAt.calls k _ _ l0_0 a0_1 t304 t306 t307 t308 t309 t312 t315 false _ (kC HR0_0) HC0_0.out A5.out) ?_; rintro e w28 ⟨v310, v313, v316, rfl, ho0, ho1, ho2, hb⟩; refine ⟨_, rfl, ?_⟩; have HO311 := Aside0.mk (Kd.R_lower ho0 (below_size oB)); have HO314 := Aside0.mk (Kd.R_lower ho1 (below_size oB)); have HO317 := Aside0.mk (Kd.R_lower ho2 (below_size oB)); replace BK302 := kb_ BK302 hb; replace BK303 := kb_ BK303 hb; replace HB := Aside0.mk (below_step oB hb); (try clear ho1); (try clear ho2)) | ((with_reducible refine gate_dst (N := 8) rfl ?_); refine bx_ 8 #[.int .i64 0, .int .i64 0, .int .i64 0, .slice none 0 0, .slice none 0 0, .slice none 0 0] 51 ?_; intro gb319 hg w29 hbox hb; have BK319 := Aside0.mk (hbox); have GW319 := gs_ hg; have NB302_319 := nl_ hg BK302; have NB319_302 := nr_ hg BK302; have NB303_319 := nl_ hg BK303; have NB319_303 := nr_ hg BK303; replace HO311 := kr_ HO311 hb; replace HO314 := kr_ HO314 hb; replace HO317 := kr_ HO317 hb; replace BK302 := kb_ BK302 hb; replace BK303 := kb_ BK303 hb; replace HB := Aside0.mk (below_step oB hb); clear hb hbox hg; have hnb30 := NB319_302.out; have hnc30 := NB302_319.out; have hnb31 := NB319_303.out; have hnc31 := NB303_319.out; obtain ⟨⟨_, _, _, _, _, _⟩, _, _, _, _, _, _⟩ := z6 BK319; obtain ⟨Ao33, co33, eo33⟩ := Kd.R_slice HO311.out; subst eo33; obtain ⟨Ao34, co34, eo34⟩ := Kd.R_slice HO314.out; subst eo34; obtain ⟨Ao35, co35, eo35⟩ := Kd.R_slice HO317.out; subst eo35; obtain ⟨⟨_, _, _, _, _, _⟩, _, _, _, _, _, _⟩ := z6 BK303))
   refine bodyPost_ret (results_ct rfl _ _ gb303 51 #[.int .i64 0, .int .i64 0, .int .i64 0, .slice none 0 0, .slice none 0 0, .slice none 0 0] (0, 0) _ rfl (oP BK303) Tryz.underlying51 rfl (by kernel_rfl)) rfl ?_
   exact ⟨_, _, _, oE, by first | exact Kd.R_nil _ _ _ _ _ | exact Kd.N_nil _ _ _ _ _ | exact Kd.V_nil _ _ _ _ _ | exact Kd.Q_nil _ _ _ _ _ | exact Kd.S_nil _ _ _ _ _, by first | exact Kd.R_nil _ _ _ _ _ | exact Kd.N_nil _ _ _ _ _ | exact Kd.V_nil _ _ _ _ _ | exact Kd.Q_nil _ _ _ _ _ | exact Kd.S_nil _ _ _ _ _, by first | exact Kd.R_nil _ _ _ _ _ | exact Kd.N_nil _ _ _ _ _ | exact Kd.V_nil _ _ _ _ _ | exact Kd.Q_nil _ _ _ _ _ | exact Kd.S_nil _ _ _ _ _, oB⟩
 ·rw [if_neg c4] at H
  have c4b0 : (t305 == 0) = false := beq_eq_false_iff_ne.mpr c4
  have c4b1 : (t305 != 0) = true := bne_iff_ne.mpr c4
  simp only [Option.some.injEq, Prod.mk.injEq] at H
  obtain ⟨rfl, rfl, rfl, rfl, rfl, rfl, rfl⟩ := H
  go_enter Tryz.func28, Tryz.ntmps28
  go_wp2_with (first | ((with_reducible refine gate_dst (N := 2) rfl ?_); refine bx_ 2 #[.slice A0_0 l0_0.length c0_0, .int .i64 a0_1] 26 ?_; intro gb302 hg w37 hbox hb; have BK302 := Aside0.mk (hbox); have GW302 := gs_ hg; replace HB := Aside0.mk (below_step oB hb); clear hb hbox hg) | ((with_reducible refine gate_dst (N := 4) rfl ?_); refine bx_ 4 #[.int .i64 0, .int .i64 0, .int .i64 0, .slice none 0 0, .slice none 0 0, .slice none 0 0] 51 ?_; intro gb303 hg w38 hbox hb; have BK303 := Aside0.mk (hbox); have GW303 := gs_ hg; have NB302_303 := nl_ hg BK302; have NB303_302 := nr_ hg BK302; replace BK302 := kb_ BK302 hb; replace HB := Aside0.mk (below_step oB hb); clear hb hbox hg; have hnb39 := NB302_303.out; have hnc39 := NB303_302.out; obtain ⟨⟨_, _⟩, _, _⟩ := z2 BK302) | ((with_reducible refine gate_callee (f := 31) rfl ?_); refine gl_ 13 Tryz.func31 (impl_Walk.calls k _ _ l0_0 a0_1 a1 t304 t305 _ (kC HR0_0) HC0_0.out A3.out) ?_; rintro e w41 ⟨rfl, hb⟩; refine ⟨_, rfl, ?_⟩; replace BK302 := kb_ BK302 hb; replace BK303 := kb_ BK303 hb; replace HB := Aside0.mk (below_step oB hb); obtain ⟨⟨_, _, _, _, _, _⟩, _, _, _, _, _, _⟩ := z6 BK303))
  refine bodyPost_ret (results_ct rfl _ _ gb303 51 #[.int .i64 0, .int .i64 0, .int .i64 0, .slice none 0 0, .slice none 0 0, .slice none 0 0] (0, 0) _ rfl (oP BK303) Tryz.underlying51 rfl (by kernel_rfl)) rfl ?_
  exact ⟨_, _, _, oE, by first | exact Kd.R_nil _ _ _ _ _ | exact Kd.N_nil _ _ _ _ _ | exact Kd.V_nil _ _ _ _ _ | exact Kd.Q_nil _ _ _ _ _ | exact Kd.S_nil _ _ _ _ _, by first | exact Kd.R_nil _ _ _ _ _ | exact Kd.N_nil _ _ _ _ _ | exact Kd.V_nil _ _ _ _ _ | exact Kd.Q_nil _ _ _ _ _ | exact Kd.S_nil _ _ _ _ _, by first | exact Kd.R_nil _ _ _ _ _ | exact Kd.N_nil _ _ _ _ _ | exact Kd.V_nil _ _ _ _ _ | exact Kd.Q_nil _ _ _ _ _ | exact Kd.S_nil _ _ _ _ _, oB⟩

-- NOT PRINTED: function 134 (strings_Join)

/-! ### impl_JoinPath: function 110 -/
theorem le_of_ {a b c : Nat} (h : Aside0 (a = b)) (k : Aside0 (b ≤ c)) : a ≤ c := Nat.le_trans (Nat.le_of_eq h.out) k.out
theorem rSpot {α : Type} {d : Kd α} {e base n c : Nat} {ok : Nat → Prop} {w : World} {A : Option Addr} {xs ys : List α} (h : d.R e w base ok (.slice A n c) xs) (_hs : ys.length ≤ xs.length) : ∀ ad, A = some ad → 0 < ys.length → ad.spot = none := by
 intro ad hA _
 subst hA
 obtain ⟨g, rfl⟩ := Kd.R_head h
 rfl
theorem qSpot {α : Type} {d : Kd α} {e base n c : Nat} {ok : Nat → Prop} {w : World} {A : Option Addr} {xs ys : List α} (h : d.Q e w base ok (.slice A n c) xs) (hs : ys.length ≤ xs.length) : ∀ ad, A = some ad → 0 < ys.length → ad.spot = none := by
 intro ad hA hp
 subst hA
 have hl := (Kd.Q_reads' h).1
 obtain ⟨_, inner, ⟨_, ho⟩, _⟩ := h
 rcases ho with ⟨h1, _⟩ | ⟨g, o, cap, cur, h1, _⟩
 ·omega
 ·injection h1 with h1
  injection h1 with h1
  rw [h1]
def joinB (l : List ByteArray) : ByteArray := ⟨(Lib.join (l.map (·.data.toList)) [47]).toArray⟩
theorem joinC (A : Option Addr) (c : Nat) (l : List ByteArray) (w : World) (hr : Kd.C Kd.string w A l.length l) (hA : ∀ ad, A = some ad → 0 < l.length → ad.spot = none) (hc : l.length ≤ c) (hN : l.length ≤ 140737488355328) (hlen : (joinB l).size ≤ 140737488355328) :
  Calls Tryz.prog 134 #[.slice A l.length c, .string ⟨#[47]⟩] w fun e w' => e = .returned (.string (joinB l)) ∧ Below w.heap.size w w' := by
 by_cases h0 : l.length = 0
 ·obtain rfl := List.eq_nil_of_length_eq_zero h0
  exact (Any.strings_Join_none Tryz.lays156 Tryz.Builder_Extra_156 A c ⟨#[47]⟩ w).mono fun e w' ⟨he, hw⟩ => ⟨he, hw ▸ Below.refl _ _⟩
 ·obtain ⟨ad, c1, e0, _, hK, hcell⟩ := Kd.C_get hr ⟨#[]⟩ 0 (by omega) (by omega)
  subst e0
  have hsp := hA ad rfl (by omega)
  obtain ⟨bk, o, sp⟩ := ad
  have hsp : sp = none := hsp
  subst hsp
  have hcells : ∀ (j : Nat) x, l[j]? = some x → w.cell? ⟨bk, o + j, none⟩ = some (.string x) := fun j x hx => by
   obtain ⟨hj, hx⟩ := List.getElem?_eq_some_iff.1 hx
   obtain ⟨ad', c', e', _, hK', hcell'⟩ := Kd.C_get hr ⟨#[]⟩ (j : Int) (by omega) (by omega)
   injection e' with e'
   subst e'
   have hg : l.getD (j : Int).toNat ⟨#[]⟩ = x := by rw [Int.toNat_natCast, List.getD_eq_getElem?_getD, List.getElem?_eq_getElem hj]; exact hx
   rw [hg] at hK'
   obtain rfl : c' = [.string x] := hK'
   have := hcell' 0 _ rfl
   simpa [Kd.string, Kd.scalar, Addr.add_lit] using this
  have hbk : bk < w.heap.size := World.block_lt_of_cell? w _ (hcells 0 l[0] (List.getElem?_eq_getElem (by omega)))
  exact Any.strings_Join Tryz.lays156 Tryz.Builder_Extra_156 bk o c l ⟨#[47]⟩ w hcells hbk hN hc (by simpa [joinB, ByteArray.size] using hlen)
def impl_JoinPath.f (k : Nat) (l : List ByteArray) : Option ByteArray := (impl_namesOk.f k l).bind fun b => if b = true then (if l.length ≤ 140737488355328 ∧ (joinB l).size ≤ 140737488355327 then some ((⟨#[47]⟩ : ByteArray) ++ joinB l) else none) else some ⟨#[]⟩
theorem impl_JoinPath.calls (k : Nat) (A0 : Option Addr) (c0 : Nat) (l0 : List ByteArray) (r : ByteArray) (w : World) (hr : Kd.C Kd.string w A0 l0.length l0) (hc0 : l0.length ≤ c0) (h : impl_JoinPath.f k l0 = some r) (hA : ∀ ad, A0 = some ad → 0 < l0.length → ad.spot = none := by first | exact qSpot (by first | (with_reducible assumption) | exact Aside0.out (by with_reducible assumption)) (by first | exact Nat.le_refl _ | exact List.length_take_le _ _ | exact le_of_ (by with_reducible assumption) (by with_reducible assumption)) | exact rSpot (by first | (with_reducible assumption) | exact Aside0.out (by with_reducible assumption)) (by first | exact Nat.le_refl _ | exact List.length_take_le _ _ | exact le_of_ (by with_reducible assumption) (by with_reducible assumption))) :
  Calls Tryz.prog 110 #[.slice A0 l0.length c0] w fun e w' => e = .returned (.string r) ∧ Below w.heap.size w w' := by
 unfold impl_JoinPath.f at h
 replace h := bA h
 obtain ⟨b, A1, h⟩ := h
 have hn := impl_namesOk.calls k A0 c0 l0 b w hr hc0 A1.out
 cases b with
 | true =>
  rw [if_pos rfl] at h
  split at h
  case isFalse => cases h
  case isTrue hl =>
  obtain rfl := Option.some.inj h
  have hs : 1 + (joinB l0).size ≤ 9223372036854775807 := by omega
  have hj := fun w1 (hb : Below w.heap.size w w1) => joinC A0 c0 l0 w1 (Kd.C_below hr hb) hA hc0 hl.1 (by omega)
  clear h hr hA hl A1 hc0
  go_enter Tryz.func110, Tryz.ntmps110
  go_wp2_with (first
   | (go_at_call 37; refine hn.mono ?_; rintro e w1 ⟨rfl, hb⟩)
   | (go_at_call 134; refine (hj _ hb).mono ?_; rintro e w2 ⟨rfl, hb2⟩))
  go_ret
  exact ⟨rfl, below_then hb hb.size hb2⟩
 | false =>
  rw [if_neg (by simp)] at h
  obtain rfl := Option.some.inj h
  clear h hr hA A1 hc0
  go_enter Tryz.func110, Tryz.ntmps110
  go_wp2_with (go_at_call 37; refine hn.mono ?_; rintro e w1 ⟨rfl, hb⟩)
  go_ret
  exact ⟨rfl, hb⟩
/-! ### impl_ParentOf: function 78 -/
def impl_ParentOf.f (k : Nat) (a0 : ByteArray) : Option (ByteArray × ByteArray × Bool) := (impl_SplitPath.f k a0).bind fun bt321 => (if bt321.2 = true then (if (bt321.1.length : Int) = 0 then (some ((⟨#[]⟩ : ByteArray), (⟨#[]⟩ : ByteArray), false)) else (if 0 ≤ (wrap64 ((bt321.1.length : Int) - 1)) then (if (wrap64 ((bt321.1.length : Int) - 1)) ≤ (bt321.1.length : Int) then ((impl_JoinPath.f k (bt321.1.take ((wrap64 ((bt321.1.length : Int) - 1)) : Int).toNat)).bind fun t329 => (if (wrap64 ((bt321.1.length : Int) - 1)) < (bt321.1.length : Int) then (some (t329, rdOf ByteArray.empty bt321.1 (wrap64 ((bt321.1.length : Int) - 1)), true)) else (none))) else (none)) else (none))) else (some ((⟨#[]⟩ : ByteArray), (⟨#[]⟩ : ByteArray), false)))
def impl_ParentOf.T5 : Bool × List (List Nat × List Nat) := (true, [([], []), ([], []), ([0, 1], [0, 1]), ([2], [2]), ([], []), ([], []), ([4, 5], [4, 5]), ([6], [6]), ([3, 3, 0, 1, 2, 3], [3]), ([7, 8, 0, 1, 2, 3, 4, 5, 6, 7, 8], [7]), ([9, 0, 1, 2, 3, 4, 5, 6, 7, 8, 9], [])])
def impl_ParentOf.B5 : List Nat := [0, 0, 3, 7, 0, 0, 48, 112, 15, 511, 1023]
theorem impl_ParentOf.tab5 : rtab .any (opsOf Tryz.f78 5) = impl_ParentOf.T5 := by kernel_rfl
theorem impl_ParentOf.bits5 : waitsOk impl_ParentOf.T5.2 impl_ParentOf.B5 = true := by kernel_rfl
set_option maxHeartbeats 8000000 in
set_option maxRecDepth 100000 in
theorem impl_ParentOf.calls (k : Nat) (a0 : ByteArray) (r1 : ByteArray) (r2 : ByteArray) (r3 : Bool) (w : World) (h : impl_ParentOf.f k a0 = some (r1, r2, r3)) (hG : GOk w := by exact gk_ oB (by first | (with_reducible assumption) | assumption)) :
  Calls Tryz.prog 78 #[.string a0] w fun e w' => e = .returned (.tuple #[.string r1, .string r2, .bool r3]) ∧ Below w.heap.size w w' := by
 have HG := Aside0.mk hG
 clear hG
 have HB := Aside0.mk (Below.refl w.heap.size w)
 unfold impl_ParentOf.f at h
 have H := h
 clear h
 replace H := bA H
 obtain ⟨⟨t321, t322⟩, A2, H⟩ := H
 try dsimp only at H
 replace H := itB H
 rcases H with ⟨rfl, H⟩ | ⟨rfl, H⟩
 ·by_cases c4 : (t321.length : Int) = 0
  ·rw [if_pos c4] at H
   have c4b0 : ((t321.length : Int) == 0) = true := beq_iff_eq.mpr c4
   have c4b1 : ((t321.length : Int) != 0) = false := bne_eq_false_iff_eq.mpr c4
   clear c4
   simp only [Option.some.injEq, Prod.mk.injEq] at H
   obtain ⟨rfl, rfl, rfl⟩ := H
   go_enter Tryz.func78, Tryz.ntmps78
   go_wp2_with (first | ((with_reducible refine gate_callee (f := 16) rfl ?_); refine gl_ 10 Tryz.func16 (impl_SplitPath.calls k a0 t321 true _ A2.out) ?_; rintro e w5 ⟨v323, rfl, ho0, hb⟩; refine ⟨_, rfl, ?_⟩; have HO324 := Aside0.mk (Kd.Q_lower ho0 (below_size oB)); replace HB := Aside0.mk (below_step oB hb); obtain ⟨Ao6, co6, eo6, _⟩ := Kd.Q_slice HO324.out; subst eo6))
   go_ret3
   exact ⟨oE, oB⟩
  ·rw [if_neg c4] at H
   have c4b0 : ((t321.length : Int) == 0) = false := beq_eq_false_iff_ne.mpr c4
   have c4b1 : ((t321.length : Int) != 0) = true := bne_iff_ne.mpr c4
   have c4b2 : ¬ (t321 = []) := fun h_ => c4 (by rw [h_]; rfl)
   obtain ⟨ji7, hji7⟩ : ∃ j_ : Int, (wrap64 ((t321.length : Int) - 1)) = j_ := ⟨_, rfl⟩
   replace H : (if 0 ≤ (ji7) then (if (ji7) ≤ (t321.length : Int) then ((impl_JoinPath.f k (t321.take ((ji7) : Int).toNat)).bind fun t329 => (if (ji7) < (t321.length : Int) then (some (t329, rdOf ByteArray.empty t321 (ji7), true)) else (none))) else (none)) else (none)) = some (r1, r2, r3) := by first | (rw [hji7] at H; exact H) | (simp only [hji7] at H ⊢; exact H)
   (try rw [hji7] at A2)
   have hji7w : (IntKind.i64.wrap ((t321.length : Int) - 1)) = ji7 := (i64_w _).trans hji7
   by_cases c8 : 0 ≤ (ji7)
   ·rw [if_pos c8] at H
    have c8b0 := eq_true c8
    have c8b1 : decide (0 ≤ (ji7)) = true := decide_eq_true c8
    clear c8
    by_cases c9 : (ji7) ≤ (t321.length : Int)
    ·rw [if_pos c9] at H
     have c9b0 := eq_true c9
     have c9b1 : decide ((ji7) ≤ (t321.length : Int)) = true := decide_eq_true c9
     clear c9
     obtain ⟨y325, hy325⟩ : ∃ y_ : List ByteArray, y_ = (t321.take ((ji7) : Int).toNat) := ⟨_, rfl⟩
     replace H : ((impl_JoinPath.f k y325).bind fun t329 => (if (ji7) < (t321.length : Int) then (some (t329, rdOf ByteArray.empty t321 (ji7), true)) else (none))) = some (r1, r2, r3) := by first | (rw [hy325]; with_reducible exact H) | (have H2_ := (Option.bind_some _ _).symm.trans H; rw [hy325]; with_reducible exact H2_) | (have H2_ := (Option.bind_some _ _).symm.trans H; with_reducible exact H2_) | with_reducible exact H | (rw [hy325]; exact H) | exact H
     have Ny325 := Aside0.mk hy325
     clear hy325
     replace H := bA H
     obtain ⟨t329, A10, H⟩ := H
     try dsimp only at H
     replace H := itD H
     rcases H with ⟨c11b0, H⟩ | ⟨c11b0, H⟩
     ·simp only [Option.some.injEq, Prod.mk.injEq] at H
      obtain ⟨rfl, rfl, rfl⟩ := H
      go_enter Tryz.func78, Tryz.ntmps78
      try go_wp2_with (first | ((with_reducible refine gate_callee (f := 16) rfl ?_); refine gl_ 10 Tryz.func16 (impl_SplitPath.calls k a0 t321 true _ A2.out) ?_; rintro e w12 ⟨v323, rfl, ho0, hb⟩; refine ⟨_, rfl, ?_⟩; have HO324 := Aside0.mk (Kd.Q_lower ho0 (below_size oB)); replace HB := Aside0.mk (below_step oB hb); obtain ⟨Ao13, co13, eo13, _⟩ := Kd.Q_slice HO324.out; subst eo13))
      replace HO324 := Aside0.mk (Kd.Q_drew HO324.out)
      replace HB := Aside0.mk (below_drew1 HB.out)
      have q15 : ((ji7) : Int) ≤ ((t321.length : Int) : Int) := oa
      obtain ⟨i015, hi015, _, hsz15, _⟩ := info_parts info9
      have hroom15 : t321.length ≤ co13 := (Kd.Q_reads' HO324.out).2.1
      have hC15 : Kd.C Kd.string _ Ao13 t321.length t321 := (Kd.Q_reads' HO324.out).2.2
      have hcut15 := cut_to (P := Tryz.prog) 31 9 .i64 Tryz.underlying31 hi015 Ao13 t321.length co13 (ji7) oa q15 hroom15
      have hr15 := Kd.C_take (m := ((ji7) : Int).toNat) hC15 (by omega)
      have hy15 : y325.length = ((ji7) : Int).toNat := (by rw [Ny325.out, List.length_take]; omega)
      rw [← Ny325.out] at hr15
      rw [← hy15] at hcut15
      have HR328 := Aside0.mk hr15
      have HC328 := Aside0.mk (show y325.length ≤ co13 from by omega)
      clear hr15 hC15 hroom15 hi015 hsz15
      have KY15 := Aside0.mk hy15
      clear hy15
      have KL15 := Aside0.mk (show ((ji7) : Int).toNat ≤ t321.length from by omega)
      replace q15 := eq_true q15
      have p330 : (0 ≤ ((ji7) : Int)) = True := oT
      have q330 : ((ji7) < (t321.length : Int)) = True := oT
      obtain ⟨ad330, e330, hx330_0⟩ := Kd.at_string (Kd.Q_reads' HO324.out).2.2 (ji7) oa oa
      cases e330
      refine st_ 11 (fun w' => w'.cell? (ad330.add ((ji7)).toNat) = some (.string (rdOf ByteArray.empty t321 (ji7)))) impl_ParentOf.tab5 impl_ParentOf.bits5 (hx330_0) (fun hHeld HT_ HW_ => ?_)
      generalize w12.drew = w14 at HO324 HB HR328 hx330_0 hHeld ⊢
      refine pu_ 0 23 HT_ ?_
      refine pu_ 1 24 HT_ ?_
      refine pu_ 2 25 HT_ ?_
      refine pu_ 4 27 HT_ ?_
      refine pu_ 5 28 HT_ ?_
      refine pu_ 6 29 HT_ ?_
      refine take_ (i := 7) (N := some 30) (v := ?_) (a' := ?_) (lb 11 247) rfl rfl (take_ofW HT_.out HW_.out (by kernel_rfl)) (fun _ _ _ h => h) (Or.inl ⟨by rfl, ?_⟩) hHeld ?_ ?_
      rotate_left
      ·intro w' s0
       go_simp
       with_reducible rfl
      rotate_left
      ·simp only [Act.put, List.setIfInBounds_toArray, List.set_cons_zero, List.set_cons_succ, i64_w, i32_w]
       rfl
      refine on_ 3 26 HT_ (fun K hK => ?_)
      refine gr_ 26 Tryz.func110 (impl_JoinPath.calls k _ _ y325 t329 _ ?side1 HC328.out A10.out) ?_
      (case side1 => repeat (first | exact (by repeat (first | (with_reducible exact HR328.out) | (with_reducible refine Kd.C_alloc ?_ _) | (with_reducible refine Kd.C_drewN ?_ _) | (with_reducible refine Kd.C_drew ?_) | exact HR328.out)) | (with_reducible refine Kd.C_alloc ?_ _) | (with_reducible refine Kd.C_drewN ?_ _) | (with_reducible refine Kd.C_drew ?_)))
      rintro e w16 ⟨rfl, hb⟩
      have HS0_ := (hb.cell (World.block_lt_of_cell? _ _ (hHeld))).trans (hHeld)
      refine ⟨_, rfl, ?_⟩
      replace HO324 := beQ0 HO324 hb
      replace HR328 := Aside0.mk (Kd.C_below (by repeat (first | (with_reducible exact HR328.out) | (with_reducible refine Kd.C_alloc ?_ _) | (with_reducible refine Kd.C_drewN ?_ _) | (with_reducible refine Kd.C_drew ?_) | exact HR328.out)) hb)
      replace HB := Aside0.mk (below_step oB hb)
      refine hk_ hK 26 (HS0_) (fun hHeld => ?_)
      clear hK K
      refine pu_ 8 2 HT_ ?_
      refine pu_ 9 3 HT_ ?_
      refine pu_ 10 4 HT_ ?_
      refine dn_ HT_ ?_
      try go_wp2
      go_ret3
      exact ⟨by first | rfl | (simp [errW_none, errW_some] <;> rfl) | (simp only [← hji7]; first | rfl | (simp [errW_none, errW_some] <;> rfl)) | (simp [*, errW_none, errW_some] <;> rfl), oB⟩
     ·cases H
    ·rw [if_neg c9] at H
     exact absurd H (by simp)
   ·rw [if_neg c8] at H
    exact absurd H (by simp)
 ·simp only [Option.some.injEq, Prod.mk.injEq] at H
  obtain ⟨rfl, rfl, rfl⟩ := H
  go_enter Tryz.func78, Tryz.ntmps78
  go_wp2_with (first | ((with_reducible refine gate_callee (f := 16) rfl ?_); refine gl_ 10 Tryz.func16 (impl_SplitPath.calls k a0 t321 false _ A2.out) ?_; rintro e w17 ⟨v323, rfl, ho0, hb⟩; refine ⟨_, rfl, ?_⟩; have HO324 := Aside0.mk (Kd.Q_lower ho0 (below_size oB)); replace HB := Aside0.mk (below_step oB hb)))
  go_ret3
  exact ⟨oE, oB⟩

end Go.Proofs.YtkcfmbggdkkfeaaGreatDoor.P
