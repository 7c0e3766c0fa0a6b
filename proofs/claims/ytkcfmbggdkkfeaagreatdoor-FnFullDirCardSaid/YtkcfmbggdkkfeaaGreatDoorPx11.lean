-- By this session's own program (wip/myprint.py) out of the translation; Lean checks it.
import Derived.Test.YtkcfmbggdkkfeaaGreatDoorPx0
import Derived.Test.YtkcfmbggdkkfeaaGreatDoorPx1
import Derived.Test.YtkcfmbggdkkfeaaGreatDoorPx2
import Derived.Test.YtkcfmbggdkkfeaaGreatDoorPx7
import Derived.Test.YtkcfmbggdkkfeaaGreatDoorPx8
namespace Go.Proofs.YtkcfmbggdkkfeaaGreatDoor.P
open Go.RowKit Go.Proofs.YtkcfmbggdkkfeaaGreatDoorW.PrintWords Go.Proofs.YtkcfmbggdkkfeaaGreatDoorW.PrintLast Go.Proofs.YtkcfmbggdkkfeaaGreatDoorW.PrintMore
attribute [local go_sem] max2_int min2_int max_two min_two max_three min_three max_four min_four   -- for this text's walks alone
set_option linter.unusedVariables false
set_option linter.unusedSimpArgs false

/-! ### impl_TreeOk: function 17 -/
mutual
def impl_TreeOk.j0 : Nat → Bool → List (S51) → Int → Option (Bool)
 | 0, _, _, _ => none
 | k + 1, x18, x256000, x256001 => if x18 = true then (some false) else (impl_TreeOk.l0 k x256000 (x256000.length : Int) 0 x256000 x256001)
def impl_TreeOk.l0 : Nat → List (S51) → Int → Int → List (S51) → Int → Option (Bool)
 | 0, _, _, _, _, _ => none
 | k + 1, x20, x21, x22, x256000, x256001 => if x22 < x21 then (if 0 ≤ x22 then (if x22 < (x20.length : Int) then ((impl_LinksOf.f k x256000 x256001 ((rd_T51 x20 x22).f0)).bind fun t262 => (if ((rd_T51 x20 x22).f2) = t262 then (impl_TreeOk.l1 k x20 x21 x22 ((rd_T51 x20 x22).f4) (((rd_T51 x20 x22).f4).length : Int) 0 x256000 x256001) else (some false))) else (none)) else (none)) else (some true)
def impl_TreeOk.l1 : Nat → List (S51) → Int → Int → List (S65) → Int → Int → List (S51) → Int → Option (Bool)
 | 0, _, _, _, _, _, _, _, _ => none
 | k + 1, x20, x21, x22, x34, x35, x36, x256000, x256001 => if x36 < x35 then (if 0 ≤ x36 then (if x36 < (x34.length : Int) then ((impl_placeOf.f k x256000 x256001 ((rd_T65 x34 x36).f1)).bind fun t265 => (if t265 < 0 then (some false) else (impl_TreeOk.l1 k x20 x21 x22 x34 x35 (wrap64 (x36 + 1)) x256000 x256001))) else (none)) else (none)) else (impl_TreeOk.l0 k x20 x21 (wrap64 (x22 + 1)) x256000 x256001)
end
def impl_TreeOk.f (k : Nat) (l0_0 : List (S51)) (a0_1 : Int) : Option (Bool) := (impl_TabOk.f k l0_0 a0_1).bind fun t256 => (if t256 = true then ((impl_Reached.f k l0_0 a0_1).bind fun t257 => (impl_TreeOk.j0 k ((t257.length : Int) != (l0_0.length : Int)) l0_0 a0_1)) else (impl_TreeOk.j0 k true l0_0 a0_1))
def impl_TreeOk.T1 : Bool × List (List Nat × List Nat) := (true, [([], []), ([0], [0]), ([1], [1]), ([2, 1], [2]), ([3], [3]), ([4, 3, 3], [3, 4]), ([5, 3], [3, 5]), ([3], [3]), ([7, 3], [3, 7]), ([8, 3], [3, 8]), ([6, 9, 3], [3, 6, 9]), ([3, 10], [3, 10])])
def impl_TreeOk.B1 : List Nat := [0, 1, 3, 7, 15, 31, 63, 15, 143, 399, 1023, 2047]
theorem impl_TreeOk.tab1 : rtab .any (opsOf Tryz.f17 1) = impl_TreeOk.T1 := by kernel_rfl
theorem impl_TreeOk.bits1 : waitsOk impl_TreeOk.T1.2 impl_TreeOk.B1 = true := by kernel_rfl
set_option maxHeartbeats 8000000 in
set_option maxRecDepth 100000 in
theorem impl_TreeOk.calls (k : Nat) (A0_0 : Option Addr) (c0_0 : Nat) (l0_0 : List (S51)) (a0_1 : Int) (r : Bool) (w : World) (hr0_0 : Kd.C k51 w A0_0 l0_0.length l0_0) (hc0_0 : l0_0.length ≤ c0_0) (h : impl_TreeOk.f k l0_0 a0_1 = some r) :
  Calls Tryz.prog 17 #[.agg #[.slice A0_0 l0_0.length c0_0, .int .i64 a0_1]] w fun e w' => e = .returned (.bool r) ∧ Below w.heap.size w w' := by
 have hu26 := Tryz.underlying26
 have hu51 := Tryz.underlying51
 have hu65 := Tryz.underlying65
 have HR0_0 := Aside0.mk hr0_0
 have HC0_0 := Aside0.mk hc0_0
 clear hr0_0 hc0_0
 have HB := Aside0.mk (Below.refl w.heap.size w)
 unfold impl_TreeOk.f at h
 have H := h
 clear h
 have HC2 := Aside0.mk H
 clear H
 go_enter Tryz.func17, Tryz.ntmps17
 go_upto_region 1 with (first | ((with_reducible refine gate_dst (N := 1) rfl ?_); (try (refine gate_guard (by rfl) ?_; dsimp only)); refine bx_ 1 #[.slice A0_0 l0_0.length c0_0, .int .i64 a0_1] 26 ?_; intro gb255 hg w3 hbox hb; have BK255 := Aside0.mk (hbox); have GW255 := gs_ hg; replace HB := Aside0.mk (below_step oB hb); clear hb hbox hg))
 (try simp only [Act.put, List.setIfInBounds_toArray, List.set_cons_zero, List.set_cons_succ])
 go_cut [18] (fun v18 wc => ∃ (kq : Nat) (x18_1 : Bool), v18 = .bool x18_1 ∧ Aside0 (impl_TreeOk.j0 kq x18_1 l0_0 a0_1 = some r) ∧ Aside0 (kq ≤ k) ∧ Aside0 (wc.heap[gb255]? = some (.cells #[(.slice A0_0 l0_0.length c0_0), .int .i64 a0_1] 26 (0, 0))) ∧ Aside0 (Below w.heap.size w wc))
 case first =>
  have H := HC2.out
  clear HC2
  replace H := bA H
  obtain ⟨t256, A4, H⟩ := H
  try dsimp only at H
  replace H := itB H
  rcases H with ⟨rfl, H⟩ | ⟨rfl, H⟩
  ·replace H := bA H
   obtain ⟨t257, A6, H⟩ := H
   try dsimp only at H
   have H' := Aside0.mk H
   clear H
   try go_wp2
   replace BK255 := Aside0.mk (blk_drew BK255.out)
   replace HB := Aside0.mk (below_drew1 HB.out)
   refine st_ 12 (fun w' => w'.cell? ⟨gb255, 0, none⟩ = some (.slice A0_0 l0_0.length c0_0) ∧ w'.cell? ⟨gb255, 1, none⟩ = some (.int .i64 a0_1)) impl_TreeOk.tab1 impl_TreeOk.bits1 oH (fun hHeld HT_ HW_ => ?_)
   generalize w3.drew = w7 at BK255 HB hHeld ⊢
   refine ta_ 0 7 HT_ HW_ hHeld ?_
   refine on_ 1 8 HT_ (fun K hK => ?_)
   refine gr_ 8 Tryz.func38 (impl_TabOk.calls k _ _ l0_0 a0_1 true _ (kC HR0_0) HC0_0.out A4.out) ?_
   rintro e w8 ⟨rfl, hb⟩
   refine ⟨_, rfl, ?_⟩
   replace BK255 := kb_ BK255 hb
   replace HB := Aside0.mk (below_step oB hb)
   refine hk_ hK 8 oH (fun hHeld => ?_)
   clear hK K
   refine pu_ 2 9 HT_ ?_
   refine pu_ 3 10 HT_ ?_
   refine pu_ 7 14 HT_ ?_
   refine ta_ 4 11 HT_ HW_ hHeld ?_
   refine ta_ 8 15 HT_ HW_ hHeld ?_
   refine pu_ 9 16 HT_ ?_
   refine on_ 5 12 HT_ (fun K hK => ?_)
   refine gr_ 12 Tryz.func39 (impl_Reached.calls k _ _ l0_0 a0_1 t257 _ (kC HR0_0) HC0_0.out A6.out) ?_
   rintro e w9 ⟨v258, rfl, ho0, hb⟩
   refine ⟨_, rfl, ?_⟩
   have HO259 := Aside0.mk (Kd.R_lower ho0 (below_size oB))
   replace BK255 := kb_ BK255 hb
   replace HB := Aside0.mk (below_step oB hb)
   obtain ⟨Ao10, co10, eo10⟩ := Kd.R_slice HO259.out
   (first | subst eo10 | (injection eo10 with f1_ f2_ f3_; have f4_ := f1_.symm; have f5_ := f3_.symm; clear f1_ f2_ f3_; subst f4_; subst f5_))
   refine hk_ hK 12 oH (fun hHeld => ?_)
   clear hK K
   refine pu_ 6 13 HT_ ?_
   refine pu_ 10 17 HT_ ?_
   refine pu_ 11 18 HT_ ?_
   refine dn_ HT_ ?_
   try go_wp2
   go_meet
   case rel => exact ⟨_, (((t257.length : Int) != (l0_0.length : Int))), oS, H', ⟨by first | omega | exact Nat.le_refl _⟩, ⟨oF BK255⟩, ⟨oB⟩⟩
  ·have H' := Aside0.mk H
   clear H
   try go_wp2
   replace BK255 := Aside0.mk (blk_drew BK255.out)
   replace HB := Aside0.mk (below_drew1 HB.out)
   refine st_ 12 (fun w' => w'.cell? ⟨gb255, 0, none⟩ = some (.slice A0_0 l0_0.length c0_0) ∧ w'.cell? ⟨gb255, 1, none⟩ = some (.int .i64 a0_1)) impl_TreeOk.tab1 impl_TreeOk.bits1 oH (fun hHeld HT_ HW_ => ?_)
   generalize w3.drew = w11 at BK255 HB hHeld ⊢
   refine ta_ 0 7 HT_ HW_ hHeld ?_
   refine on_ 1 8 HT_ (fun K hK => ?_)
   refine gr_ 8 Tryz.func38 (impl_TabOk.calls k _ _ l0_0 a0_1 false _ (kC HR0_0) HC0_0.out A4.out) ?_
   rintro e w12 ⟨rfl, hb⟩
   refine ⟨_, rfl, ?_⟩
   replace BK255 := kb_ BK255 hb
   replace HB := Aside0.mk (below_step oB hb)
   refine hk_ hK 8 oH (fun hHeld => ?_)
   clear hK K
   refine pu_ 2 9 HT_ ?_
   refine pu_ 3 10 HT_ ?_
   refine pn_ 4 11 HT_ ?_
   refine pn_ 5 12 HT_ ?_
   refine pn_ 6 13 HT_ ?_
   refine pn_ 7 14 HT_ ?_
   refine pn_ 8 15 HT_ ?_
   refine pn_ 9 16 HT_ ?_
   refine pn_ 10 17 HT_ ?_
   refine pu_ 11 18 HT_ ?_
   refine dn_ HT_ ?_
   try go_wp2
   go_meet
   case rel => exact ⟨_, (true), oS, H', ⟨by first | omega | exact Nat.le_refl _⟩, ⟨oF BK255⟩, ⟨oB⟩⟩
 case rest =>
  clear HC2
  obtain ⟨kq, x18_1, rfl, HA, HJ1, BK255, HB⟩ := hcut
  cases kq with
  | zero => exact absurd HA.out (by simp [impl_TreeOk.j0])
  | succ kj1 =>
   have H := HA.out
   clear HA
   simp only [impl_TreeOk.j0] at H
   replace H := itB H
   rcases H with ⟨rfl, H⟩ | ⟨rfl, H⟩
   ·obtain rfl := Option.some.inj H
    go_wp2
    go_ret
    exact ⟨oE, oB⟩
   ·have H' := Aside0.mk H
    clear H
    obtain ⟨⟨_, _⟩, _, _⟩ := z2 BK255
    go_wp2
    go_loopg [22] kj1 (fun kq v22 w' => ∃ (x22_2 : Int), v22 = .int .i64 x22_2 ∧ Aside0 (impl_TreeOk.l0 kq l0_0 (l0_0.length : Int) x22_2 l0_0 a0_1 = some r) ∧ Aside0 (kq ≤ kj1) ∧ Aside0 (w'.heap[gb255]? = some (.cells #[(.slice A0_0 l0_0.length c0_0), .int .i64 a0_1] 26 (0, 0))) ∧ Aside0 (Below w.heap.size w w'))
    case atStart => exact ⟨(0), oS, H', ⟨Nat.le_refl _⟩, ⟨oF BK255⟩, ⟨oB⟩⟩
    case round =>
     clear H'
     obtain ⟨x22_2, rfl, HA, HK2, BK255, HB⟩ := hrel
     cases gk with
     | zero => exact absurd HA.out (by simp [impl_TreeOk.l0])
     | succ k2 =>
      have H := HA.out
      clear HA
      simp only [impl_TreeOk.l0] at H
      replace H := itD H
      rcases H with ⟨c15b0, H⟩ | ⟨c15b0, H⟩
      ·replace H := itD H
       rcases H with ⟨c16b0, H⟩ | ⟨c16b0, H⟩
       ·replace H := itD H
        rcases H with ⟨c17b0, H⟩ | ⟨c17b0, H⟩
        ·replace H := bA H
         obtain ⟨t262, A18, H⟩ := H
         try dsimp only at H
         by_cases c19 : ((rd_T51 l0_0 x22_2).f2) = t262
         ·rw [if_pos c19] at H
          have c19b0 : (((rd_T51 l0_0 x22_2).f2) == t262) = true := beq_iff_eq.mpr c19
          have c19b1 : (((rd_T51 l0_0 x22_2).f2) != t262) = false := bne_eq_false_iff_eq.mpr c19
          clear c19
          have H' := Aside0.mk H
          clear H
          have p260 : (0 ≤ (x22_2 : Int)) = True := oT
          have q260 : (x22_2 < (l0_0.length : Int)) = True := oT
          obtain ⟨ad260, A260_3, c260_3, A260_4, c260_4, A260_5, c260_5, e260, hx260_0, hx260_1, hx260_2, hx260_3, hx260_4, hx260_5, hl260_3, hi260_3, hl260_4, hi260_4, hl260_5, hi260_5⟩ := at_T51 HR0_0.out x22_2 oa oa
          cases e260
          replace hx260_0 := cB HB hx260_0
          replace hx260_1 := cB HB hx260_1
          replace hx260_2 := cB HB hx260_2
          replace hx260_3 := cB HB hx260_3
          replace hx260_4 := cB HB hx260_4
          replace hx260_5 := cB HB hx260_5
          have HR260_3 := Aside0.mk hi260_3
          have HC260_3 := Aside0.mk hl260_3
          clear hi260_3 hl260_3
          have HR260_4 := Aside0.mk hi260_4
          have HC260_4 := Aside0.mk hl260_4
          clear hi260_4 hl260_4
          have HR260_5 := Aside0.mk hi260_5
          have HC260_5 := Aside0.mk hl260_5
          clear hi260_5 hl260_5
          try go_wp2_with (first | ((with_reducible refine gate_dst (N := 4) rfl ?_); (try (refine gate_guard (by rfl) ?_; dsimp only)); refine bx_ 4 #[.int .i64 0, .int .i64 0, .int .i64 0, .slice none 0 0, .slice none 0 0, .slice none 0 0] 51 ?_; intro gb261 hg w20 hbox hb; have BK261 := Aside0.mk (hbox); have GW261 := gs_ hg; have NB255_261 := nl_ hg BK255; have NB261_255 := nr_ hg BK255; replace BK255 := kb_ BK255 hb; replace HB := Aside0.mk (below_step oB hb); clear hb hbox hg; have hnb21 := NB261_255.out; have hnc21 := NB255_261.out; obtain ⟨⟨_, _, _, _, _, _⟩, _, _, _, _, _, _⟩ := z6 BK261))
          generalize hW_ : ((((((w20.setCell ⟨gb261, 0, none⟩ (.int .i64 ((rd_T51 l0_0 x22_2).f0))).setCell ⟨gb261, 1, none⟩ (.int .i64 ((rd_T51 l0_0 x22_2).f1))).setCell ⟨gb261, 2, none⟩ (.int .i64 ((rd_T51 l0_0 x22_2).f2))).setCell ⟨gb261, 3, none⟩ (.slice A260_3 ((rd_T51 l0_0 x22_2).f3).length c260_3)).setCell ⟨gb261, 4, none⟩ (.slice A260_4 ((rd_T51 l0_0 x22_2).f4).length c260_4)).setCell ⟨gb261, 5, none⟩ (.slice A260_5 ((rd_T51 l0_0 x22_2).f5).length c260_5)) = w23
          replace BK255 := kw_ hW_ BK255
          replace BK261 := kv_ #[.int .i64 ((rd_T51 l0_0 x22_2).f0), .int .i64 ((rd_T51 l0_0 x22_2).f1), .int .i64 ((rd_T51 l0_0 x22_2).f2), .slice A260_3 ((rd_T51 l0_0 x22_2).f3).length c260_3, .slice A260_4 ((rd_T51 l0_0 x22_2).f4).length c260_4, .slice A260_5 ((rd_T51 l0_0 x22_2).f5).length c260_5] hW_ BK261
          replace HB := hw_ hW_ HB
          clear hW_
          replace BK255 := Aside0.mk (blk_drew BK255.out)
          replace BK261 := Aside0.mk (blk_drew BK261.out)
          replace HB := Aside0.mk (below_drew1 HB.out)
          refine s0_ 7 (fun w' => w'.cell? ⟨gb261, 0, none⟩ = some (.int .i64 ((rd_T51 l0_0 x22_2).f0)) ∧ w'.cell? ⟨gb261, 1, none⟩ = some (.int .i64 ((rd_T51 l0_0 x22_2).f1)) ∧ w'.cell? ⟨gb261, 2, none⟩ = some (.int .i64 ((rd_T51 l0_0 x22_2).f2)) ∧ w'.cell? ⟨gb261, 3, none⟩ = some (.slice A260_3 ((rd_T51 l0_0 x22_2).f3).length c260_3) ∧ w'.cell? ⟨gb261, 4, none⟩ = some (.slice A260_4 ((rd_T51 l0_0 x22_2).f4).length c260_4) ∧ w'.cell? ⟨gb261, 5, none⟩ = some (.slice A260_5 ((rd_T51 l0_0 x22_2).f5).length c260_5) ∧ w'.cell? ⟨gb255, 0, none⟩ = some (.slice (some ad260) l0_0.length c0_0) ∧ w'.cell? ⟨gb255, 1, none⟩ = some (.int .i64 a0_1)) oH (fun hHeld => ?_)
          generalize w23.drew = w24 at BK255 BK261 HB hHeld ⊢
          refine p0_ 0 26 ?_
          refine p0_ 3 29 ?_
          refine t0_ 1 27 hHeld ?_
          refine t0_ 2 28 hHeld ?_
          refine t0_ 4 30 hHeld ?_
          refine o0_ 5 31 (fun K hK => ?_)
          refine gr_ 31 Tryz.func40 (impl_LinksOf.calls k2 _ _ l0_0 a0_1 ((rd_T51 l0_0 x22_2).f0) t262 _ (kC HR0_0) HC0_0.out A18.out) ?_
          rintro e w25 ⟨rfl, hb⟩
          refine ⟨_, rfl, ?_⟩
          replace BK255 := kb_ BK255 hb
          replace BK261 := kb_ BK261 hb
          replace HB := Aside0.mk (below_step oB hb)
          refine hk_ hK 31 oH (fun hHeld => ?_)
          clear hK K
          refine p0_ 6 32 ?_
          refine done_ (by kernel_rfl) ?_
          obtain ⟨⟨_, _, _, _, _, _⟩, _, _, _, _, _, _⟩ := z6 BK261
          try go_wp2
          go_loopg [36] k2 (fun kq v36 w' => ∃ (x36_3 : Int), v36 = .int .i64 x36_3 ∧ Aside0 (impl_TreeOk.l1 kq l0_0 (l0_0.length : Int) x22_2 ((rd_T51 l0_0 x22_2).f4) (((rd_T51 l0_0 x22_2).f4).length : Int) x36_3 l0_0 a0_1 = some r) ∧ Aside0 (kq ≤ k2) ∧ Aside0 (w'.heap[gb255]? = some (.cells #[(.slice (some ad260) l0_0.length c0_0), .int .i64 a0_1] 26 (0, 0))) ∧ Aside0 (w'.heap[gb261]? = some (.cells #[.int .i64 ((rd_T51 l0_0 x22_2).f0), .int .i64 ((rd_T51 l0_0 x22_2).f1), .int .i64 ((rd_T51 l0_0 x22_2).f2), (.slice A260_3 ((rd_T51 l0_0 x22_2).f3).length c260_3), (.slice A260_4 ((rd_T51 l0_0 x22_2).f4).length c260_4), (.slice A260_5 ((rd_T51 l0_0 x22_2).f5).length c260_5)] 51 (0, 0))) ∧ Aside0 (Below w.heap.size w w'))
          case atStart => exact ⟨(0), oS, H', ⟨Nat.le_refl _⟩, ⟨oF BK255⟩, ⟨oF BK261⟩, ⟨oB⟩⟩
          case round =>
           clear H'
           try clear c15b0
           try clear c16b0
           try clear c17b0
           try clear c19
           obtain ⟨x36_3, rfl, HA, HK3, BK255, BK261, HB⟩ := hrel
           cases gk with
           | zero => exact absurd HA.out (by simp [impl_TreeOk.l1])
           | succ k3 =>
            have H := HA.out
            clear HA
            simp only [impl_TreeOk.l1] at H
            replace H := itD H
            rcases H with ⟨c27b0, H⟩ | ⟨c27b0, H⟩
            ·replace H := itD H
             rcases H with ⟨c28b0, H⟩ | ⟨c28b0, H⟩
             ·replace H := itD H
              rcases H with ⟨c29b0, H⟩ | ⟨c29b0, H⟩
              ·replace H := bA H
               obtain ⟨t265, A30, H⟩ := H
               try dsimp only at H
               replace H := itD H
               rcases H with ⟨c31b0, H⟩ | ⟨c31b0, H⟩
               ·obtain rfl := Option.some.inj H
                have p263 : (0 ≤ (x36_3 : Int)) = True := oT
                have q263 : (x36_3 < (((rd_T51 l0_0 x22_2).f4).length : Int)) = True := oT
                obtain ⟨ad263, e263, hx263_0, hx263_1⟩ := at_T65 HR260_4.out x36_3 oa oa
                cases e263
                replace hx263_0 := cB HB hx263_0
                replace hx263_1 := cB HB hx263_1
                go_wp2_with (first | ((with_reducible refine gate_dst (N := 6) rfl ?_); (try (refine gate_guard (by rfl) ?_; dsimp only)); refine bx_ 6 #[.string (⟨#[]⟩ : ByteArray), .int .i64 0] 65 ?_; intro gb264 hg w32 hbox hb; have BK264 := Aside0.mk (hbox); have GW264 := gs_ hg; have NB255_264 := nl_ hg BK255; have NB264_255 := nr_ hg BK255; have NB261_264 := nl_ hg BK261; have NB264_261 := nr_ hg BK261; replace BK255 := kb_ BK255 hb; replace BK261 := kb_ BK261 hb; replace HB := Aside0.mk (below_step oB hb); clear hb hbox hg; have hnb33 := NB264_255.out; have hnc33 := NB255_264.out; have hnb34 := NB264_261.out; have hnc34 := NB261_264.out; obtain ⟨⟨_, _⟩, _, _⟩ := z2 BK264; have hnb36 := NB255_261.out; have hnc36 := NB261_255.out; obtain ⟨⟨_, _⟩, _, _⟩ := z2 BK255) | ((with_reducible refine gate_callee (f := 41) rfl ?_); refine gl_ 43 Tryz.func41 (impl_placeOf.calls k3 _ _ l0_0 a0_1 ((rd_T65 ((rd_T51 l0_0 x22_2).f4) x36_3).f1) t265 _ ?side1 HC0_0.out A30.out) ?_; (case side1 => exact Kd.C_below HR0_0.out oB); rintro e w38 ⟨rfl, hb⟩; refine ⟨_, rfl, ?_⟩; replace BK255 := kb_ BK255 hb; replace BK261 := kb_ BK261 hb; replace BK264 := kp_ #[.string ((rd_T65 ((rd_T51 l0_0 x22_2).f4) x36_3).f0), .int .i64 ((rd_T65 ((rd_T51 l0_0 x22_2).f4) x36_3).f1)] BK264 hb; replace HB := Aside0.mk (below_step oB hb)))
                go_ret
                exact ⟨oE, oB⟩
               ·have H' := Aside0.mk H
                clear H
                have p263 : (0 ≤ (x36_3 : Int)) = True := oT
                have q263 : (x36_3 < (((rd_T51 l0_0 x22_2).f4).length : Int)) = True := oT
                obtain ⟨ad263, e263, hx263_0, hx263_1⟩ := at_T65 HR260_4.out x36_3 oa oa
                cases e263
                replace hx263_0 := cB HB hx263_0
                replace hx263_1 := cB HB hx263_1
                go_wp2_with (first | ((with_reducible refine gate_dst (N := 6) rfl ?_); (try (refine gate_guard (by rfl) ?_; dsimp only)); refine bx_ 6 #[.string (⟨#[]⟩ : ByteArray), .int .i64 0] 65 ?_; intro gb264 hg w39 hbox hb; have BK264 := Aside0.mk (hbox); have GW264 := gs_ hg; have NB255_264 := nl_ hg BK255; have NB264_255 := nr_ hg BK255; have NB261_264 := nl_ hg BK261; have NB264_261 := nr_ hg BK261; replace BK255 := kb_ BK255 hb; replace BK261 := kb_ BK261 hb; replace HB := Aside0.mk (below_step oB hb); clear hb hbox hg; have hnb40 := NB264_255.out; have hnc40 := NB255_264.out; have hnb41 := NB264_261.out; have hnc41 := NB261_264.out; obtain ⟨⟨_, _⟩, _, _⟩ := z2 BK264; have hnb43 := NB255_261.out; have hnc43 := NB261_255.out; obtain ⟨⟨_, _⟩, _, _⟩ := z2 BK255) | ((with_reducible refine gate_callee (f := 41) rfl ?_); refine gl_ 43 Tryz.func41 (impl_placeOf.calls k3 _ _ l0_0 a0_1 ((rd_T65 ((rd_T51 l0_0 x22_2).f4) x36_3).f1) t265 _ ?side1 HC0_0.out A30.out) ?_; (case side1 => exact Kd.C_below HR0_0.out oB); rintro e w45 ⟨rfl, hb⟩; refine ⟨_, rfl, ?_⟩; replace BK255 := kb_ BK255 hb; replace BK261 := kb_ BK261 hb; replace BK264 := kp_ #[.string ((rd_T65 ((rd_T51 l0_0 x22_2).f4) x36_3).f0), .int .i64 ((rd_T65 ((rd_T51 l0_0 x22_2).f4) x36_3).f1)] BK264 hb; replace HB := Aside0.mk (below_step oB hb)))
                go_roundg k3
                case measure => have := HJ1.out; have := HK2.out; have := HK3.out; omega
                case rel => exact ⟨(wrap64 (x36_3 + 1)), oS, H', ⟨by have := HJ1.out; have := HK2.out; have := HK3.out; omega⟩, ⟨oF BK255⟩, ⟨oF BK261⟩, ⟨oB⟩⟩
              ·cases H
             ·cases H
            ·have H' := Aside0.mk H
             clear H
             go_wp2
             go_roundg k3
             case measure => have := HJ1.out; have := HK2.out; have := HK3.out; omega
             case rel => exact ⟨(wrap64 (x22_2 + 1)), oS, H', ⟨by have := HJ1.out; have := HK2.out; have := HK3.out; omega⟩, ⟨oF BK255⟩, ⟨oB⟩⟩
         ·rw [if_neg c19] at H
          have c19b0 : (((rd_T51 l0_0 x22_2).f2) == t262) = false := beq_eq_false_iff_ne.mpr c19
          have c19b1 : (((rd_T51 l0_0 x22_2).f2) != t262) = true := bne_iff_ne.mpr c19
          obtain rfl := Option.some.inj H
          have p260 : (0 ≤ (x22_2 : Int)) = True := oT
          have q260 : (x22_2 < (l0_0.length : Int)) = True := oT
          obtain ⟨ad260, A260_3, c260_3, A260_4, c260_4, A260_5, c260_5, e260, hx260_0, hx260_1, hx260_2, hx260_3, hx260_4, hx260_5, hl260_3, hi260_3, hl260_4, hi260_4, hl260_5, hi260_5⟩ := at_T51 HR0_0.out x22_2 oa oa
          cases e260
          replace hx260_0 := cB HB hx260_0
          replace hx260_1 := cB HB hx260_1
          replace hx260_2 := cB HB hx260_2
          replace hx260_3 := cB HB hx260_3
          replace hx260_4 := cB HB hx260_4
          replace hx260_5 := cB HB hx260_5
          have HR260_3 := Aside0.mk hi260_3
          have HC260_3 := Aside0.mk hl260_3
          clear hi260_3 hl260_3
          have HR260_4 := Aside0.mk hi260_4
          have HC260_4 := Aside0.mk hl260_4
          clear hi260_4 hl260_4
          have HR260_5 := Aside0.mk hi260_5
          have HC260_5 := Aside0.mk hl260_5
          clear hi260_5 hl260_5
          try go_wp2_with (first | ((with_reducible refine gate_dst (N := 4) rfl ?_); (try (refine gate_guard (by rfl) ?_; dsimp only)); refine bx_ 4 #[.int .i64 0, .int .i64 0, .int .i64 0, .slice none 0 0, .slice none 0 0, .slice none 0 0] 51 ?_; intro gb261 hg w46 hbox hb; have BK261 := Aside0.mk (hbox); have GW261 := gs_ hg; have NB255_261 := nl_ hg BK255; have NB261_255 := nr_ hg BK255; replace BK255 := kb_ BK255 hb; replace HB := Aside0.mk (below_step oB hb); clear hb hbox hg; have hnb47 := NB261_255.out; have hnc47 := NB255_261.out; obtain ⟨⟨_, _, _, _, _, _⟩, _, _, _, _, _, _⟩ := z6 BK261))
          generalize hW_ : ((((((w46.setCell ⟨gb261, 0, none⟩ (.int .i64 ((rd_T51 l0_0 x22_2).f0))).setCell ⟨gb261, 1, none⟩ (.int .i64 ((rd_T51 l0_0 x22_2).f1))).setCell ⟨gb261, 2, none⟩ (.int .i64 ((rd_T51 l0_0 x22_2).f2))).setCell ⟨gb261, 3, none⟩ (.slice A260_3 ((rd_T51 l0_0 x22_2).f3).length c260_3)).setCell ⟨gb261, 4, none⟩ (.slice A260_4 ((rd_T51 l0_0 x22_2).f4).length c260_4)).setCell ⟨gb261, 5, none⟩ (.slice A260_5 ((rd_T51 l0_0 x22_2).f5).length c260_5)) = w49
          replace BK255 := kw_ hW_ BK255
          replace BK261 := kv_ #[.int .i64 ((rd_T51 l0_0 x22_2).f0), .int .i64 ((rd_T51 l0_0 x22_2).f1), .int .i64 ((rd_T51 l0_0 x22_2).f2), .slice A260_3 ((rd_T51 l0_0 x22_2).f3).length c260_3, .slice A260_4 ((rd_T51 l0_0 x22_2).f4).length c260_4, .slice A260_5 ((rd_T51 l0_0 x22_2).f5).length c260_5] hW_ BK261
          replace HB := hw_ hW_ HB
          clear hW_
          replace BK255 := Aside0.mk (blk_drew BK255.out)
          replace BK261 := Aside0.mk (blk_drew BK261.out)
          replace HB := Aside0.mk (below_drew1 HB.out)
          refine s0_ 7 (fun w' => w'.cell? ⟨gb261, 0, none⟩ = some (.int .i64 ((rd_T51 l0_0 x22_2).f0)) ∧ w'.cell? ⟨gb261, 1, none⟩ = some (.int .i64 ((rd_T51 l0_0 x22_2).f1)) ∧ w'.cell? ⟨gb261, 2, none⟩ = some (.int .i64 ((rd_T51 l0_0 x22_2).f2)) ∧ w'.cell? ⟨gb261, 3, none⟩ = some (.slice A260_3 ((rd_T51 l0_0 x22_2).f3).length c260_3) ∧ w'.cell? ⟨gb261, 4, none⟩ = some (.slice A260_4 ((rd_T51 l0_0 x22_2).f4).length c260_4) ∧ w'.cell? ⟨gb261, 5, none⟩ = some (.slice A260_5 ((rd_T51 l0_0 x22_2).f5).length c260_5) ∧ w'.cell? ⟨gb255, 0, none⟩ = some (.slice (some ad260) l0_0.length c0_0) ∧ w'.cell? ⟨gb255, 1, none⟩ = some (.int .i64 a0_1)) oH (fun hHeld => ?_)
          generalize w49.drew = w50 at BK255 BK261 HB hHeld ⊢
          refine p0_ 0 26 ?_
          refine p0_ 3 29 ?_
          refine t0_ 1 27 hHeld ?_
          refine t0_ 2 28 hHeld ?_
          refine t0_ 4 30 hHeld ?_
          refine o0_ 5 31 (fun K hK => ?_)
          refine gr_ 31 Tryz.func40 (impl_LinksOf.calls k2 _ _ l0_0 a0_1 ((rd_T51 l0_0 x22_2).f0) t262 _ (kC HR0_0) HC0_0.out A18.out) ?_
          rintro e w51 ⟨rfl, hb⟩
          refine ⟨_, rfl, ?_⟩
          replace BK255 := kb_ BK255 hb
          replace BK261 := kb_ BK261 hb
          replace HB := Aside0.mk (below_step oB hb)
          refine hk_ hK 31 oH (fun hHeld => ?_)
          clear hK K
          refine p0_ 6 32 ?_
          refine done_ (by kernel_rfl) ?_
          try go_wp2
          go_ret
          exact ⟨oE, oB⟩
        ·cases H
       ·cases H
      ·obtain rfl := Option.some.inj H
       go_wp2
       go_ret
       exact ⟨oE, oB⟩

end Go.Proofs.YtkcfmbggdkkfeaaGreatDoor.P
