-- By this session's own program (wip/myprint.py) out of the translation; Lean checks it.
import Derived.Test.YtolkhimbfegkkaaGreatPx0
import Derived.Test.YtolkhimbfegkkaaGreatPx3
import Derived.Test.YtolkhimbfegkkaaGreatPx4
import Derived.Test.YtolkhimbfegkkaaGreatPx13
import Derived.Test.YtolkhimbfegkkaaGreatPx15
namespace Go.Proofs.YtolkhimbfegkkaaGreat.P
open Go.RowKit Go.Proofs.YtolkhimbfegkkaaGreatW.PrintWords Go.Proofs.YtolkhimbfegkkaaGreatW.PrintLast Go.Proofs.YtolkhimbfegkkaaGreatW.PrintMore
attribute [local go_sem] max2_int min2_int max_two min_two max_three min_three max_four min_four   -- for this text's walks alone
set_option linter.unusedVariables false
set_option linter.unusedSimpArgs false

/-! ### impl_TreeOk: function 18 -/
mutual
def impl_TreeOk.j0 : Nat → Bool → List (S47) → Int → Option (Bool)
 | 0, _, _, _ => none
 | k + 1, x18, x444000, x444001 => if x18 = true then (some false) else (impl_TreeOk.l0 k x444000 (x444000.length : Int) 0 x444000 x444001)
def impl_TreeOk.l0 : Nat → List (S47) → Int → Int → List (S47) → Int → Option (Bool)
 | 0, _, _, _, _, _ => none
 | k + 1, x20, x21, x22, x444000, x444001 => if x22 < x21 then (if 0 ≤ x22 then (if x22 < (x20.length : Int) then ((impl_LinksOf.f k x444000 x444001 ((rd_T47 x20 x22).f0)).bind fun t450 => (if ((rd_T47 x20 x22).f2) = t450 then (impl_TreeOk.l1 k x20 x21 x22 ((rd_T47 x20 x22).f4) (((rd_T47 x20 x22).f4).length : Int) 0 x444000 x444001) else (some false))) else (none)) else (none)) else (some true)
def impl_TreeOk.l1 : Nat → List (S47) → Int → Int → List (S63) → Int → Int → List (S47) → Int → Option (Bool)
 | 0, _, _, _, _, _, _, _, _ => none
 | k + 1, x20, x21, x22, x34, x35, x36, x444000, x444001 => if x36 < x35 then (if 0 ≤ x36 then (if x36 < (x34.length : Int) then ((impl_placeOf.f k x444000 x444001 ((rd_T63 x34 x36).f1)).bind fun t453 => (if t453 < 0 then (some false) else (impl_TreeOk.l1 k x20 x21 x22 x34 x35 (wrap64 (x36 + 1)) x444000 x444001))) else (none)) else (none)) else (impl_TreeOk.l0 k x20 x21 (wrap64 (x22 + 1)) x444000 x444001)
end
def impl_TreeOk.f (k : Nat) (l0_0 : List (S47)) (a0_1 : Int) : Option (Bool) := (impl_TabOk.f k l0_0 a0_1).bind fun t444 => (if t444 = true then ((impl_Reached.f k l0_0 a0_1).bind fun t445 => (impl_TreeOk.j0 k ((t445.length : Int) != (l0_0.length : Int)) l0_0 a0_1)) else (impl_TreeOk.j0 k true l0_0 a0_1))
def impl_TreeOk.T1 : Bool × List (List Nat × List Nat) := (true, [([], []), ([0], [0]), ([1], [1]), ([2, 1], [2]), ([3], [3]), ([4, 3, 3], [3, 4]), ([5, 3], [3, 5]), ([3], [3]), ([7, 3], [3, 7]), ([8, 3], [3, 8]), ([6, 9, 3], [3, 6, 9]), ([3, 10], [3, 10])])
def impl_TreeOk.B1 : List Nat := [0, 1, 3, 7, 15, 31, 63, 15, 143, 399, 1023, 2047]
theorem impl_TreeOk.tab1 : rtab .any (opsOf Tryz.f18 1) = impl_TreeOk.T1 := by kernel_rfl
theorem impl_TreeOk.bits1 : waitsOk impl_TreeOk.T1.2 impl_TreeOk.B1 = true := by kernel_rfl
set_option maxHeartbeats 8000000 in
set_option maxRecDepth 100000 in
theorem impl_TreeOk.calls (k : Nat) (A0_0 : Option Addr) (c0_0 : Nat) (l0_0 : List (S47)) (a0_1 : Int) (r : Bool) (w : World) (hr0_0 : Kd.C k47 w A0_0 l0_0.length l0_0) (hc0_0 : l0_0.length ≤ c0_0) (h : impl_TreeOk.f k l0_0 a0_1 = some r) :
  Calls Tryz.prog 18 #[.agg #[.slice A0_0 l0_0.length c0_0, .int .i64 a0_1]] w fun e w' => e = .returned (.bool r) ∧ Below w.heap.size w w' := by
 have hu30 := Tryz.underlying30
 have hu47 := Tryz.underlying47
 have hu63 := Tryz.underlying63
 have HR0_0 := Aside0.mk hr0_0
 have HC0_0 := Aside0.mk hc0_0
 clear hr0_0 hc0_0
 have HB := Aside0.mk (Below.refl w.heap.size w)
 unfold impl_TreeOk.f at h
 have H := h
 clear h
 have HC2 := Aside0.mk H
 clear H
 go_enter Tryz.func18, Tryz.ntmps18
 go_upto_region 1 with (first | ((with_reducible refine gate_dst (N := 1) rfl ?_); (try (refine gate_guard (by rfl) ?_; dsimp only)); refine bx_ 1 #[.slice A0_0 l0_0.length c0_0, .int .i64 a0_1] 30 ?_; intro gb443 hg w3 hbox hb; have BK443 := Aside0.mk (hbox); have GW443 := gs_ hg; replace HB := Aside0.mk (below_step oB hb); clear hb hbox hg))
 (try simp only [Act.put, List.setIfInBounds_toArray, List.set_cons_zero, List.set_cons_succ])
 go_cut [18] (fun v18 wc => ∃ (kq : Nat) (x18_1 : Bool), v18 = .bool x18_1 ∧ Aside0 (impl_TreeOk.j0 kq x18_1 l0_0 a0_1 = some r) ∧ Aside0 (kq ≤ k) ∧ Aside0 (wc.heap[gb443]? = some (.cells #[(.slice A0_0 l0_0.length c0_0), .int .i64 a0_1] 30 (0, 0))) ∧ Aside0 (Below w.heap.size w wc))
 case first =>
  have H := HC2.out
  clear HC2
  replace H := bA H
  obtain ⟨t444, A4, H⟩ := H
  try dsimp only at H
  replace H := itB H
  rcases H with ⟨rfl, H⟩ | ⟨rfl, H⟩
  ·replace H := bA H
   obtain ⟨t445, A6, H⟩ := H
   try dsimp only at H
   have H' := Aside0.mk H
   clear H
   try go_wp2
   replace BK443 := Aside0.mk (blk_drew BK443.out)
   replace HB := Aside0.mk (below_drew1 HB.out)
   refine st_ 12 (fun w' => w'.cell? ⟨gb443, 0, none⟩ = some (.slice A0_0 l0_0.length c0_0) ∧ w'.cell? ⟨gb443, 1, none⟩ = some (.int .i64 a0_1)) impl_TreeOk.tab1 impl_TreeOk.bits1 oH (fun hHeld HT_ HW_ => ?_)
   generalize w3.drew = w7 at BK443 HB hHeld ⊢
   refine ta_ 0 7 HT_ HW_ hHeld ?_
   refine on_ 1 8 HT_ (fun K hK => ?_)
   refine gr_ 8 Tryz.func32 (impl_TabOk.calls k _ _ l0_0 a0_1 true _ (kC HR0_0) HC0_0.out A4.out) ?_
   rintro e w8 ⟨rfl, hb⟩
   refine ⟨_, rfl, ?_⟩
   replace BK443 := kb_ BK443 hb
   replace HB := Aside0.mk (below_step oB hb)
   refine hk_ hK 8 oH (fun hHeld => ?_)
   clear hK K
   refine pu_ 2 9 HT_ ?_
   refine pu_ 3 10 HT_ ?_
   refine pu_ 7 14 HT_ ?_
   refine ta_ 4 11 HT_ HW_ hHeld ?_
   refine ta_ 8 15 HT_ HW_ hHeld ?_
   refine pu_ 9 16 HT_ ?_
   refine on_ 5 12 HT_ (fun K hK => ?_)
   refine gr_ 12 Tryz.func33 (impl_Reached.calls k _ _ l0_0 a0_1 t445 _ (kC HR0_0) HC0_0.out A6.out) ?_
   rintro e w9 ⟨v446, rfl, ho0, hb⟩
   refine ⟨_, rfl, ?_⟩
   have HO447 := Aside0.mk (Kd.R_lower ho0 (below_size oB))
   replace BK443 := kb_ BK443 hb
   replace HB := Aside0.mk (below_step oB hb)
   obtain ⟨Ao10, co10, eo10⟩ := Kd.R_slice HO447.out
   (first | subst eo10 | (injection eo10 with f1_ f2_ f3_; have f4_ := f1_.symm; have f5_ := f3_.symm; clear f1_ f2_ f3_; subst f4_; subst f5_))
   refine hk_ hK 12 oH (fun hHeld => ?_)
   clear hK K
   refine pu_ 6 13 HT_ ?_
   refine pu_ 10 17 HT_ ?_
   refine pu_ 11 18 HT_ ?_
   refine dn_ HT_ ?_
   try go_wp2
   go_meet
   case rel => exact ⟨_, (((t445.length : Int) != (l0_0.length : Int))), oS, H', ⟨by first | omega | exact Nat.le_refl _⟩, ⟨oF BK443⟩, ⟨oB⟩⟩
  ·have H' := Aside0.mk H
   clear H
   try go_wp2
   replace BK443 := Aside0.mk (blk_drew BK443.out)
   replace HB := Aside0.mk (below_drew1 HB.out)
   refine st_ 12 (fun w' => w'.cell? ⟨gb443, 0, none⟩ = some (.slice A0_0 l0_0.length c0_0) ∧ w'.cell? ⟨gb443, 1, none⟩ = some (.int .i64 a0_1)) impl_TreeOk.tab1 impl_TreeOk.bits1 oH (fun hHeld HT_ HW_ => ?_)
   generalize w3.drew = w11 at BK443 HB hHeld ⊢
   refine ta_ 0 7 HT_ HW_ hHeld ?_
   refine on_ 1 8 HT_ (fun K hK => ?_)
   refine gr_ 8 Tryz.func32 (impl_TabOk.calls k _ _ l0_0 a0_1 false _ (kC HR0_0) HC0_0.out A4.out) ?_
   rintro e w12 ⟨rfl, hb⟩
   refine ⟨_, rfl, ?_⟩
   replace BK443 := kb_ BK443 hb
   replace HB := Aside0.mk (below_step oB hb)
   refine hk_ hK 8 oH (fun hHeld => ?_)
   clear hK K
   refine pu_ 2 9 HT_ ?_
   refine pu_ 3 10 HT_ ?_
   refine pn_ 4 11 HT_ ?_
   refine pn_ 5 12 HT_ ?_
   refine pn_ 6 13 HT_ ?_
   refine pn_ 7 14 HT_ ?_
   refine pn_ 8 15 HT_ ?_
   refine pn_ 9 16 HT_ ?_
   refine pn_ 10 17 HT_ ?_
   refine pu_ 11 18 HT_ ?_
   refine dn_ HT_ ?_
   try go_wp2
   go_meet
   case rel => exact ⟨_, (true), oS, H', ⟨by first | omega | exact Nat.le_refl _⟩, ⟨oF BK443⟩, ⟨oB⟩⟩
 case rest =>
  clear HC2
  obtain ⟨kq, x18_1, rfl, HA, HJ1, BK443, HB⟩ := hcut
  cases kq with
  | zero => exact absurd HA.out (by simp [impl_TreeOk.j0])
  | succ kj1 =>
   have H := HA.out
   clear HA
   simp only [impl_TreeOk.j0] at H
   replace H := itB H
   rcases H with ⟨rfl, H⟩ | ⟨rfl, H⟩
   ·obtain rfl := Option.some.inj H
    go_wp2
    go_ret
    exact ⟨oE, oB⟩
   ·have H' := Aside0.mk H
    clear H
    obtain ⟨⟨_, _⟩, _, _⟩ := z2 BK443
    go_wp2
    go_loopg [22] kj1 (fun kq v22 w' => ∃ (x22_2 : Int), v22 = .int .i64 x22_2 ∧ Aside0 (impl_TreeOk.l0 kq l0_0 (l0_0.length : Int) x22_2 l0_0 a0_1 = some r) ∧ Aside0 (kq ≤ kj1) ∧ Aside0 (w'.heap[gb443]? = some (.cells #[(.slice A0_0 l0_0.length c0_0), .int .i64 a0_1] 30 (0, 0))) ∧ Aside0 (Below w.heap.size w w'))
    case atStart => exact ⟨(0), oS, H', ⟨Nat.le_refl _⟩, ⟨oF BK443⟩, ⟨oB⟩⟩
    case round =>
     clear H'
     obtain ⟨x22_2, rfl, HA, HK2, BK443, HB⟩ := hrel
     cases gk with
     | zero => exact absurd HA.out (by simp [impl_TreeOk.l0])
     | succ k2 =>
      have H := HA.out
      clear HA
      simp only [impl_TreeOk.l0] at H
      replace H := itD H
      rcases H with ⟨c15b0, H⟩ | ⟨c15b0, H⟩
      ·replace H := itD H
       rcases H with ⟨c16b0, H⟩ | ⟨c16b0, H⟩
       ·replace H := itD H
        rcases H with ⟨c17b0, H⟩ | ⟨c17b0, H⟩
        ·replace H := bA H
         obtain ⟨t450, A18, H⟩ := H
         try dsimp only at H
         by_cases c19 : ((rd_T47 l0_0 x22_2).f2) = t450
         ·rw [if_pos c19] at H
          have c19b0 : (((rd_T47 l0_0 x22_2).f2) == t450) = true := beq_iff_eq.mpr c19
          have c19b1 : (((rd_T47 l0_0 x22_2).f2) != t450) = false := bne_eq_false_iff_eq.mpr c19
          clear c19
          have H' := Aside0.mk H
          clear H
          have p448 : (0 ≤ (x22_2 : Int)) = True := oT
          have q448 : (x22_2 < (l0_0.length : Int)) = True := oT
          obtain ⟨ad448, A448_3, c448_3, A448_4, c448_4, A448_5, c448_5, e448, hx448_0, hx448_1, hx448_2, hx448_3, hx448_4, hx448_5, hl448_3, hi448_3, hl448_4, hi448_4, hl448_5, hi448_5⟩ := at_T47 HR0_0.out x22_2 oa oa
          cases e448
          replace hx448_0 := cB HB hx448_0
          replace hx448_1 := cB HB hx448_1
          replace hx448_2 := cB HB hx448_2
          replace hx448_3 := cB HB hx448_3
          replace hx448_4 := cB HB hx448_4
          replace hx448_5 := cB HB hx448_5
          have HR448_3 := Aside0.mk hi448_3
          have HC448_3 := Aside0.mk hl448_3
          clear hi448_3 hl448_3
          have HR448_4 := Aside0.mk hi448_4
          have HC448_4 := Aside0.mk hl448_4
          clear hi448_4 hl448_4
          have HR448_5 := Aside0.mk hi448_5
          have HC448_5 := Aside0.mk hl448_5
          clear hi448_5 hl448_5
          try go_wp2_with (first | ((with_reducible refine gate_dst (N := 4) rfl ?_); (try (refine gate_guard (by rfl) ?_; dsimp only)); refine bx_ 4 #[.int .i64 0, .int .i64 0, .int .i64 0, .slice none 0 0, .slice none 0 0, .slice none 0 0] 47 ?_; intro gb449 hg w20 hbox hb; have BK449 := Aside0.mk (hbox); have GW449 := gs_ hg; have NB443_449 := nl_ hg BK443; have NB449_443 := nr_ hg BK443; replace BK443 := kb_ BK443 hb; replace HB := Aside0.mk (below_step oB hb); clear hb hbox hg; have hnb21 := NB449_443.out; have hnc21 := NB443_449.out; obtain ⟨⟨_, _, _, _, _, _⟩, _, _, _, _, _, _⟩ := z6 BK449))
          generalize hW_ : ((((((w20.setCell ⟨gb449, 0, none⟩ (.int .i64 ((rd_T47 l0_0 x22_2).f0))).setCell ⟨gb449, 1, none⟩ (.int .i64 ((rd_T47 l0_0 x22_2).f1))).setCell ⟨gb449, 2, none⟩ (.int .i64 ((rd_T47 l0_0 x22_2).f2))).setCell ⟨gb449, 3, none⟩ (.slice A448_3 ((rd_T47 l0_0 x22_2).f3).length c448_3)).setCell ⟨gb449, 4, none⟩ (.slice A448_4 ((rd_T47 l0_0 x22_2).f4).length c448_4)).setCell ⟨gb449, 5, none⟩ (.slice A448_5 ((rd_T47 l0_0 x22_2).f5).length c448_5)) = w23
          replace BK443 := kw_ hW_ BK443
          replace BK449 := kv_ #[.int .i64 ((rd_T47 l0_0 x22_2).f0), .int .i64 ((rd_T47 l0_0 x22_2).f1), .int .i64 ((rd_T47 l0_0 x22_2).f2), .slice A448_3 ((rd_T47 l0_0 x22_2).f3).length c448_3, .slice A448_4 ((rd_T47 l0_0 x22_2).f4).length c448_4, .slice A448_5 ((rd_T47 l0_0 x22_2).f5).length c448_5] hW_ BK449
          replace HB := hw_ hW_ HB
          clear hW_
          replace BK443 := Aside0.mk (blk_drew BK443.out)
          replace BK449 := Aside0.mk (blk_drew BK449.out)
          replace HB := Aside0.mk (below_drew1 HB.out)
          refine s0_ 7 (fun w' => w'.cell? ⟨gb449, 0, none⟩ = some (.int .i64 ((rd_T47 l0_0 x22_2).f0)) ∧ w'.cell? ⟨gb449, 1, none⟩ = some (.int .i64 ((rd_T47 l0_0 x22_2).f1)) ∧ w'.cell? ⟨gb449, 2, none⟩ = some (.int .i64 ((rd_T47 l0_0 x22_2).f2)) ∧ w'.cell? ⟨gb449, 3, none⟩ = some (.slice A448_3 ((rd_T47 l0_0 x22_2).f3).length c448_3) ∧ w'.cell? ⟨gb449, 4, none⟩ = some (.slice A448_4 ((rd_T47 l0_0 x22_2).f4).length c448_4) ∧ w'.cell? ⟨gb449, 5, none⟩ = some (.slice A448_5 ((rd_T47 l0_0 x22_2).f5).length c448_5) ∧ w'.cell? ⟨gb443, 0, none⟩ = some (.slice (some ad448) l0_0.length c0_0) ∧ w'.cell? ⟨gb443, 1, none⟩ = some (.int .i64 a0_1)) oH (fun hHeld => ?_)
          generalize w23.drew = w24 at BK443 BK449 HB hHeld ⊢
          refine p0_ 0 26 ?_
          refine p0_ 3 29 ?_
          refine t0_ 1 27 hHeld ?_
          refine t0_ 2 28 hHeld ?_
          refine t0_ 4 30 hHeld ?_
          refine o0_ 5 31 (fun K hK => ?_)
          refine gr_ 31 Tryz.func34 (impl_LinksOf.calls k2 _ _ l0_0 a0_1 ((rd_T47 l0_0 x22_2).f0) t450 _ (kC HR0_0) HC0_0.out A18.out) ?_
          rintro e w25 ⟨rfl, hb⟩
          refine ⟨_, rfl, ?_⟩
          replace BK443 := kb_ BK443 hb
          replace BK449 := kb_ BK449 hb
          replace HB := Aside0.mk (below_step oB hb)
          refine hk_ hK 31 oH (fun hHeld => ?_)
          clear hK K
          refine p0_ 6 32 ?_
          refine done_ (by kernel_rfl) ?_
          obtain ⟨⟨_, _, _, _, _, _⟩, _, _, _, _, _, _⟩ := z6 BK449
          try go_wp2
          go_loopg [36] k2 (fun kq v36 w' => ∃ (x36_3 : Int), v36 = .int .i64 x36_3 ∧ Aside0 (impl_TreeOk.l1 kq l0_0 (l0_0.length : Int) x22_2 ((rd_T47 l0_0 x22_2).f4) (((rd_T47 l0_0 x22_2).f4).length : Int) x36_3 l0_0 a0_1 = some r) ∧ Aside0 (kq ≤ k2) ∧ Aside0 (w'.heap[gb443]? = some (.cells #[(.slice (some ad448) l0_0.length c0_0), .int .i64 a0_1] 30 (0, 0))) ∧ Aside0 (w'.heap[gb449]? = some (.cells #[.int .i64 ((rd_T47 l0_0 x22_2).f0), .int .i64 ((rd_T47 l0_0 x22_2).f1), .int .i64 ((rd_T47 l0_0 x22_2).f2), (.slice A448_3 ((rd_T47 l0_0 x22_2).f3).length c448_3), (.slice A448_4 ((rd_T47 l0_0 x22_2).f4).length c448_4), (.slice A448_5 ((rd_T47 l0_0 x22_2).f5).length c448_5)] 47 (0, 0))) ∧ Aside0 (Below w.heap.size w w'))
          case atStart => exact ⟨(0), oS, H', ⟨Nat.le_refl _⟩, ⟨oF BK443⟩, ⟨oF BK449⟩, ⟨oB⟩⟩
          case round =>
           clear H'
           try clear c15b0
           try clear c16b0
           try clear c17b0
           try clear c19
           obtain ⟨x36_3, rfl, HA, HK3, BK443, BK449, HB⟩ := hrel
           cases gk with
           | zero => exact absurd HA.out (by simp [impl_TreeOk.l1])
           | succ k3 =>
            have H := HA.out
            clear HA
            simp only [impl_TreeOk.l1] at H
            replace H := itD H
            rcases H with ⟨c27b0, H⟩ | ⟨c27b0, H⟩
            ·replace H := itD H
             rcases H with ⟨c28b0, H⟩ | ⟨c28b0, H⟩
             ·replace H := itD H
              rcases H with ⟨c29b0, H⟩ | ⟨c29b0, H⟩
              ·replace H := bA H
               obtain ⟨t453, A30, H⟩ := H
               try dsimp only at H
               replace H := itD H
               rcases H with ⟨c31b0, H⟩ | ⟨c31b0, H⟩
               ·obtain rfl := Option.some.inj H
                have p451 : (0 ≤ (x36_3 : Int)) = True := oT
                have q451 : (x36_3 < (((rd_T47 l0_0 x22_2).f4).length : Int)) = True := oT
                obtain ⟨ad451, e451, hx451_0, hx451_1⟩ := at_T63 HR448_4.out x36_3 oa oa
                cases e451
                replace hx451_0 := cB HB hx451_0
                replace hx451_1 := cB HB hx451_1
                go_wp2_with (first | ((with_reducible refine gate_dst (N := 6) rfl ?_); (try (refine gate_guard (by rfl) ?_; dsimp only)); refine bx_ 6 #[.string (⟨#[]⟩ : ByteArray), .int .i64 0] 63 ?_; intro gb452 hg w32 hbox hb; have BK452 := Aside0.mk (hbox); have GW452 := gs_ hg; have NB443_452 := nl_ hg BK443; have NB452_443 := nr_ hg BK443; have NB449_452 := nl_ hg BK449; have NB452_449 := nr_ hg BK449; replace BK443 := kb_ BK443 hb; replace BK449 := kb_ BK449 hb; replace HB := Aside0.mk (below_step oB hb); clear hb hbox hg; have hnb33 := NB452_443.out; have hnc33 := NB443_452.out; have hnb34 := NB452_449.out; have hnc34 := NB449_452.out; obtain ⟨⟨_, _⟩, _, _⟩ := z2 BK452; have hnb36 := NB443_449.out; have hnc36 := NB449_443.out; obtain ⟨⟨_, _⟩, _, _⟩ := z2 BK443) | ((with_reducible refine gate_callee (f := 35) rfl ?_); refine gl_ 43 Tryz.func35 (impl_placeOf.calls k3 _ _ l0_0 a0_1 ((rd_T63 ((rd_T47 l0_0 x22_2).f4) x36_3).f1) t453 _ ?side1 HC0_0.out A30.out) ?_; (case side1 => exact Kd.C_below HR0_0.out oB); rintro e w38 ⟨rfl, hb⟩; refine ⟨_, rfl, ?_⟩; replace BK443 := kb_ BK443 hb; replace BK449 := kb_ BK449 hb; replace BK452 := kp_ #[.string ((rd_T63 ((rd_T47 l0_0 x22_2).f4) x36_3).f0), .int .i64 ((rd_T63 ((rd_T47 l0_0 x22_2).f4) x36_3).f1)] BK452 hb; replace HB := Aside0.mk (below_step oB hb)))
                go_ret
                exact ⟨oE, oB⟩
               ·have H' := Aside0.mk H
                clear H
                have p451 : (0 ≤ (x36_3 : Int)) = True := oT
                have q451 : (x36_3 < (((rd_T47 l0_0 x22_2).f4).length : Int)) = True := oT
                obtain ⟨ad451, e451, hx451_0, hx451_1⟩ := at_T63 HR448_4.out x36_3 oa oa
                cases e451
                replace hx451_0 := cB HB hx451_0
                replace hx451_1 := cB HB hx451_1
                go_wp2_with (first | ((with_reducible refine gate_dst (N := 6) rfl ?_); (try (refine gate_guard (by rfl) ?_; dsimp only)); refine bx_ 6 #[.string (⟨#[]⟩ : ByteArray), .int .i64 0] 63 ?_; intro gb452 hg w39 hbox hb; have BK452 := Aside0.mk (hbox); have GW452 := gs_ hg; have NB443_452 := nl_ hg BK443; have NB452_443 := nr_ hg BK443; have NB449_452 := nl_ hg BK449; have NB452_449 := nr_ hg BK449; replace BK443 := kb_ BK443 hb; replace BK449 := kb_ BK449 hb; replace HB := Aside0.mk (below_step oB hb); clear hb hbox hg; have hnb40 := NB452_443.out; have hnc40 := NB443_452.out; have hnb41 := NB452_449.out; have hnc41 := NB449_452.out; obtain ⟨⟨_, _⟩, _, _⟩ := z2 BK452; have hnb43 := NB443_449.out; have hnc43 := NB449_443.out; obtain ⟨⟨_, _⟩, _, _⟩ := z2 BK443) | ((with_reducible refine gate_callee (f := 35) rfl ?_); refine gl_ 43 Tryz.func35 (impl_placeOf.calls k3 _ _ l0_0 a0_1 ((rd_T63 ((rd_T47 l0_0 x22_2).f4) x36_3).f1) t453 _ ?side1 HC0_0.out A30.out) ?_; (case side1 => exact Kd.C_below HR0_0.out oB); rintro e w45 ⟨rfl, hb⟩; refine ⟨_, rfl, ?_⟩; replace BK443 := kb_ BK443 hb; replace BK449 := kb_ BK449 hb; replace BK452 := kp_ #[.string ((rd_T63 ((rd_T47 l0_0 x22_2).f4) x36_3).f0), .int .i64 ((rd_T63 ((rd_T47 l0_0 x22_2).f4) x36_3).f1)] BK452 hb; replace HB := Aside0.mk (below_step oB hb)))
                go_roundg k3
                case measure => have := HJ1.out; have := HK2.out; have := HK3.out; omega
                case rel => exact ⟨(wrap64 (x36_3 + 1)), oS, H', ⟨by have := HJ1.out; have := HK2.out; have := HK3.out; omega⟩, ⟨oF BK443⟩, ⟨oF BK449⟩, ⟨oB⟩⟩
              ·cases H
             ·cases H
            ·have H' := Aside0.mk H
             clear H
             go_wp2
             go_roundg k3
             case measure => have := HJ1.out; have := HK2.out; have := HK3.out; omega
             case rel => exact ⟨(wrap64 (x22_2 + 1)), oS, H', ⟨by have := HJ1.out; have := HK2.out; have := HK3.out; omega⟩, ⟨oF BK443⟩, ⟨oB⟩⟩
         ·rw [if_neg c19] at H
          have c19b0 : (((rd_T47 l0_0 x22_2).f2) == t450) = false := beq_eq_false_iff_ne.mpr c19
          have c19b1 : (((rd_T47 l0_0 x22_2).f2) != t450) = true := bne_iff_ne.mpr c19
          obtain rfl := Option.some.inj H
          have p448 : (0 ≤ (x22_2 : Int)) = True := oT
          have q448 : (x22_2 < (l0_0.length : Int)) = True := oT
          obtain ⟨ad448, A448_3, c448_3, A448_4, c448_4, A448_5, c448_5, e448, hx448_0, hx448_1, hx448_2, hx448_3, hx448_4, hx448_5, hl448_3, hi448_3, hl448_4, hi448_4, hl448_5, hi448_5⟩ := at_T47 HR0_0.out x22_2 oa oa
          cases e448
          replace hx448_0 := cB HB hx448_0
          replace hx448_1 := cB HB hx448_1
          replace hx448_2 := cB HB hx448_2
          replace hx448_3 := cB HB hx448_3
          replace hx448_4 := cB HB hx448_4
          replace hx448_5 := cB HB hx448_5
          have HR448_3 := Aside0.mk hi448_3
          have HC448_3 := Aside0.mk hl448_3
          clear hi448_3 hl448_3
          have HR448_4 := Aside0.mk hi448_4
          have HC448_4 := Aside0.mk hl448_4
          clear hi448_4 hl448_4
          have HR448_5 := Aside0.mk hi448_5
          have HC448_5 := Aside0.mk hl448_5
          clear hi448_5 hl448_5
          try go_wp2_with (first | ((with_reducible refine gate_dst (N := 4) rfl ?_); (try (refine gate_guard (by rfl) ?_; dsimp only)); refine bx_ 4 #[.int .i64 0, .int .i64 0, .int .i64 0, .slice none 0 0, .slice none 0 0, .slice none 0 0] 47 ?_; intro gb449 hg w46 hbox hb; have BK449 := Aside0.mk (hbox); have GW449 := gs_ hg; have NB443_449 := nl_ hg BK443; have NB449_443 := nr_ hg BK443; replace BK443 := kb_ BK443 hb; replace HB := Aside0.mk (below_step oB hb); clear hb hbox hg; have hnb47 := NB449_443.out; have hnc47 := NB443_449.out; obtain ⟨⟨_, _, _, _, _, _⟩, _, _, _, _, _, _⟩ := z6 BK449))
          generalize hW_ : ((((((w46.setCell ⟨gb449, 0, none⟩ (.int .i64 ((rd_T47 l0_0 x22_2).f0))).setCell ⟨gb449, 1, none⟩ (.int .i64 ((rd_T47 l0_0 x22_2).f1))).setCell ⟨gb449, 2, none⟩ (.int .i64 ((rd_T47 l0_0 x22_2).f2))).setCell ⟨gb449, 3, none⟩ (.slice A448_3 ((rd_T47 l0_0 x22_2).f3).length c448_3)).setCell ⟨gb449, 4, none⟩ (.slice A448_4 ((rd_T47 l0_0 x22_2).f4).length c448_4)).setCell ⟨gb449, 5, none⟩ (.slice A448_5 ((rd_T47 l0_0 x22_2).f5).length c448_5)) = w49
          replace BK443 := kw_ hW_ BK443
          replace BK449 := kv_ #[.int .i64 ((rd_T47 l0_0 x22_2).f0), .int .i64 ((rd_T47 l0_0 x22_2).f1), .int .i64 ((rd_T47 l0_0 x22_2).f2), .slice A448_3 ((rd_T47 l0_0 x22_2).f3).length c448_3, .slice A448_4 ((rd_T47 l0_0 x22_2).f4).length c448_4, .slice A448_5 ((rd_T47 l0_0 x22_2).f5).length c448_5] hW_ BK449
          replace HB := hw_ hW_ HB
          clear hW_
          replace BK443 := Aside0.mk (blk_drew BK443.out)
          replace BK449 := Aside0.mk (blk_drew BK449.out)
          replace HB := Aside0.mk (below_drew1 HB.out)
          refine s0_ 7 (fun w' => w'.cell? ⟨gb449, 0, none⟩ = some (.int .i64 ((rd_T47 l0_0 x22_2).f0)) ∧ w'.cell? ⟨gb449, 1, none⟩ = some (.int .i64 ((rd_T47 l0_0 x22_2).f1)) ∧ w'.cell? ⟨gb449, 2, none⟩ = some (.int .i64 ((rd_T47 l0_0 x22_2).f2)) ∧ w'.cell? ⟨gb449, 3, none⟩ = some (.slice A448_3 ((rd_T47 l0_0 x22_2).f3).length c448_3) ∧ w'.cell? ⟨gb449, 4, none⟩ = some (.slice A448_4 ((rd_T47 l0_0 x22_2).f4).length c448_4) ∧ w'.cell? ⟨gb449, 5, none⟩ = some (.slice A448_5 ((rd_T47 l0_0 x22_2).f5).length c448_5) ∧ w'.cell? ⟨gb443, 0, none⟩ = some (.slice (some ad448) l0_0.length c0_0) ∧ w'.cell? ⟨gb443, 1, none⟩ = some (.int .i64 a0_1)) oH (fun hHeld => ?_)
          generalize w49.drew = w50 at BK443 BK449 HB hHeld ⊢
          refine p0_ 0 26 ?_
          refine p0_ 3 29 ?_
          refine t0_ 1 27 hHeld ?_
          refine t0_ 2 28 hHeld ?_
          refine t0_ 4 30 hHeld ?_
          refine o0_ 5 31 (fun K hK => ?_)
          refine gr_ 31 Tryz.func34 (impl_LinksOf.calls k2 _ _ l0_0 a0_1 ((rd_T47 l0_0 x22_2).f0) t450 _ (kC HR0_0) HC0_0.out A18.out) ?_
          rintro e w51 ⟨rfl, hb⟩
          refine ⟨_, rfl, ?_⟩
          replace BK443 := kb_ BK443 hb
          replace BK449 := kb_ BK449 hb
          replace HB := Aside0.mk (below_step oB hb)
          refine hk_ hK 31 oH (fun hHeld => ?_)
          clear hK K
          refine p0_ 6 32 ?_
          refine done_ (by kernel_rfl) ?_
          try go_wp2
          go_ret
          exact ⟨oE, oB⟩
        ·cases H
       ·cases H
      ·obtain rfl := Option.some.inj H
       go_wp2
       go_ret
       exact ⟨oE, oB⟩

end Go.Proofs.YtolkhimbfegkkaaGreat.P
