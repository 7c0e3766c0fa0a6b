-- By this session's own program (wip/myprint.py) out of the translation; Lean checks it.
import Derived.Test.YtkcfmbggdkkfeaaGreatDoorPx0
import Derived.Test.YtkcfmbggdkkfeaaGreatDoorPx1
import Derived.Test.YtkcfmbggdkkfeaaGreatDoorPx3
import Derived.Test.YtkcfmbggdkkfeaaGreatDoorPx7
import Derived.Test.YtkcfmbggdkkfeaaGreatDoorPx8
namespace Go.Proofs.YtkcfmbggdkkfeaaGreatDoor.P
open Go.RowKit Go.Proofs.YtkcfmbggdkkfeaaGreatDoorW.PrintWords Go.Proofs.YtkcfmbggdkkfeaaGreatDoorW.PrintLast Go.Proofs.YtkcfmbggdkkfeaaGreatDoorW.PrintMore
attribute [local go_sem] max2_int min2_int max_two min_two max_three min_three max_four min_four   -- for this text's walks alone
set_option linter.unusedVariables false
set_option linter.unusedSimpArgs false

/-! ### impl_TreeOk: function 17 -/
mutual
def impl_TreeOk.j0 : Nat → Bool → List (S51) → Int → Option (Bool)
 | 0, _, _, _ => none
 | k + 1, x18, x262000, x262001 => if x18 = true then (some false) else (impl_TreeOk.l0 k x262000 (x262000.length : Int) 0 x262000 x262001)
def impl_TreeOk.l0 : Nat → List (S51) → Int → Int → List (S51) → Int → Option (Bool)
 | 0, _, _, _, _, _ => none
 | k + 1, x20, x21, x22, x262000, x262001 => if x22 < x21 then (if 0 ≤ x22 then (if x22 < (x20.length : Int) then ((impl_LinksOf.f k x262000 x262001 ((rd_T51 x20 x22).f0)).bind fun t268 => (if ((rd_T51 x20 x22).f2) = t268 then (impl_TreeOk.l1 k x20 x21 x22 ((rd_T51 x20 x22).f4) (((rd_T51 x20 x22).f4).length : Int) 0 x262000 x262001) else (some false))) else (none)) else (none)) else (some true)
def impl_TreeOk.l1 : Nat → List (S51) → Int → Int → List (S65) → Int → Int → List (S51) → Int → Option (Bool)
 | 0, _, _, _, _, _, _, _, _ => none
 | k + 1, x20, x21, x22, x34, x35, x36, x262000, x262001 => if x36 < x35 then (if 0 ≤ x36 then (if x36 < (x34.length : Int) then ((impl_placeOf.f k x262000 x262001 ((rd_T65 x34 x36).f1)).bind fun t271 => (if t271 < 0 then (some false) else (impl_TreeOk.l1 k x20 x21 x22 x34 x35 (wrap64 (x36 + 1)) x262000 x262001))) else (none)) else (none)) else (impl_TreeOk.l0 k x20 x21 (wrap64 (x22 + 1)) x262000 x262001)
end
def impl_TreeOk.f (k : Nat) (l0_0 : List (S51)) (a0_1 : Int) : Option (Bool) := (impl_TabOk.f k l0_0 a0_1).bind fun t262 => (if t262 = true then ((impl_Reached.f k l0_0 a0_1).bind fun t263 => (impl_TreeOk.j0 k ((t263.length : Int) != (l0_0.length : Int)) l0_0 a0_1)) else (impl_TreeOk.j0 k true l0_0 a0_1))
def impl_TreeOk.T1 : Bool × List (List Nat × List Nat) := (true, [([], []), ([0], [0]), ([1], [1]), ([2, 1], [2]), ([3], [3]), ([4, 3, 3], [3, 4]), ([5, 3], [3, 5]), ([3], [3]), ([7, 3], [3, 7]), ([8, 3], [3, 8]), ([6, 9, 3], [3, 6, 9]), ([3, 10], [3, 10])])
def impl_TreeOk.B1 : List Nat := [0, 1, 3, 7, 15, 31, 63, 15, 143, 399, 1023, 2047]
theorem impl_TreeOk.tab1 : rtab .any (opsOf Tryz.f17 1) = impl_TreeOk.T1 := by kernel_rfl
theorem impl_TreeOk.bits1 : waitsOk impl_TreeOk.T1.2 impl_TreeOk.B1 = true := by kernel_rfl
set_option maxHeartbeats 8000000 in
set_option maxRecDepth 100000 in
theorem impl_TreeOk.calls (k : Nat) (A0_0 : Option Addr) (c0_0 : Nat) (l0_0 : List (S51)) (a0_1 : Int) (r : Bool) (w : World) (hr0_0 : Kd.C k51 w A0_0 l0_0.length l0_0) (hc0_0 : l0_0.length ≤ c0_0) (h : impl_TreeOk.f k l0_0 a0_1 = some r) :
  Calls Tryz.prog 17 #[.agg #[.slice A0_0 l0_0.length c0_0, .int .i64 a0_1]] w fun e w' => e = .returned (.bool r) ∧ Below w.heap.size w w' := by
 have hu26 := Tryz.underlying26
 have hu51 := Tryz.underlying51
 have hu65 := Tryz.underlying65
 have HR0_0 := Aside0.mk hr0_0
 have HC0_0 := Aside0.mk hc0_0
 clear hr0_0 hc0_0
 have HB := Aside0.mk (Below.refl w.heap.size w)
 unfold impl_TreeOk.f at h
 have H := h
 clear h
 have HC2 := Aside0.mk H
 clear H
 go_enter Tryz.func17, Tryz.ntmps17
 go_upto_region 1 with (first | ((with_reducible refine gate_dst (N := 1) rfl ?_); (try (refine gate_guard (by rfl) ?_; dsimp only)); refine bx_ 1 #[.slice A0_0 l0_0.length c0_0, .int .i64 a0_1] 26 ?_; intro gb261 hg w3 hbox hb; have BK261 := Aside0.mk (hbox); have GW261 := gs_ hg; replace HB := Aside0.mk (below_step oB hb); clear hb hbox hg))
 (try simp only [Act.put, List.setIfInBounds_toArray, List.set_cons_zero, List.set_cons_succ])
 go_cut [18] (fun v18 wc => ∃ (kq : Nat) (x18_1 : Bool), v18 = .bool x18_1 ∧ Aside0 (impl_TreeOk.j0 kq x18_1 l0_0 a0_1 = some r) ∧ Aside0 (kq ≤ k) ∧ Aside0 (wc.heap[gb261]? = some (.cells #[(.slice A0_0 l0_0.length c0_0), .int .i64 a0_1] 26 (0, 0))) ∧ Aside0 (Below w.heap.size w wc))
 case first =>
  have H := HC2.out
  clear HC2
  replace H := bA H
  obtain ⟨t262, A4, H⟩ := H
  try dsimp only at H
  replace H := itB H
  rcases H with ⟨rfl, H⟩ | ⟨rfl, H⟩
  ·replace H := bA H
   obtain ⟨t263, A6, H⟩ := H
   try dsimp only at H
   have H' := Aside0.mk H
   clear H
   try go_wp2
   replace BK261 := Aside0.mk (blk_drew BK261.out)
   replace HB := Aside0.mk (below_drew1 HB.out)
   refine st_ 12 (fun w' => w'.cell? ⟨gb261, 0, none⟩ = some (.slice A0_0 l0_0.length c0_0) ∧ w'.cell? ⟨gb261, 1, none⟩ = some (.int .i64 a0_1)) impl_TreeOk.tab1 impl_TreeOk.bits1 oH (fun hHeld HT_ HW_ => ?_)
   generalize w3.drew = w7 at BK261 HB hHeld ⊢
   refine ta_ 0 7 HT_ HW_ hHeld ?_
   refine on_ 1 8 HT_ (fun K hK => ?_)
   refine gr_ 8 Tryz.func38 (impl_TabOk.calls k _ _ l0_0 a0_1 true _ (kC HR0_0) HC0_0.out A4.out) ?_
   rintro e w8 ⟨rfl, hb⟩
   refine ⟨_, rfl, ?_⟩
   replace BK261 := kb_ BK261 hb
   replace HB := Aside0.mk (below_step oB hb)
   refine hk_ hK 8 oH (fun hHeld => ?_)
   clear hK K
   refine pu_ 2 9 HT_ ?_
   refine pu_ 3 10 HT_ ?_
   refine pu_ 7 14 HT_ ?_
   refine ta_ 4 11 HT_ HW_ hHeld ?_
   refine ta_ 8 15 HT_ HW_ hHeld ?_
   refine pu_ 9 16 HT_ ?_
   refine on_ 5 12 HT_ (fun K hK => ?_)
   refine gr_ 12 Tryz.func39 (impl_Reached.calls k _ _ l0_0 a0_1 t263 _ (kC HR0_0) HC0_0.out A6.out) ?_
   rintro e w9 ⟨v264, rfl, ho0, hb⟩
   refine ⟨_, rfl, ?_⟩
   have HO265 := Aside0.mk (Kd.R_lower ho0 (below_size oB))
   replace BK261 := kb_ BK261 hb
   replace HB := Aside0.mk (below_step oB hb)
   obtain ⟨Ao10, co10, eo10⟩ := Kd.R_slice HO265.out
   (first | subst eo10 | (injection eo10 with f1_ f2_ f3_; have f4_ := f1_.symm; have f5_ := f3_.symm; clear f1_ f2_ f3_; subst f4_; subst f5_))
   refine hk_ hK 12 oH (fun hHeld => ?_)
   clear hK K
   refine pu_ 6 13 HT_ ?_
   refine pu_ 10 17 HT_ ?_
   refine pu_ 11 18 HT_ ?_
   refine dn_ HT_ ?_
   try go_wp2
   go_meet
   case rel => exact ⟨_, (((t263.length : Int) != (l0_0.length : Int))), oS, H', ⟨by first | omega | exact Nat.le_refl _⟩, ⟨oF BK261⟩, ⟨oB⟩⟩
  ·have H' := Aside0.mk H
   clear H
   try go_wp2
   replace BK261 := Aside0.mk (blk_drew BK261.out)
   replace HB := Aside0.mk (below_drew1 HB.out)
   refine st_ 12 (fun w' => w'.cell? ⟨gb261, 0, none⟩ = some (.slice A0_0 l0_0.length c0_0) ∧ w'.cell? ⟨gb261, 1, none⟩ = some (.int .i64 a0_1)) impl_TreeOk.tab1 impl_TreeOk.bits1 oH (fun hHeld HT_ HW_ => ?_)
   generalize w3.drew = w11 at BK261 HB hHeld ⊢
   refine ta_ 0 7 HT_ HW_ hHeld ?_
   refine on_ 1 8 HT_ (fun K hK => ?_)
   refine gr_ 8 Tryz.func38 (impl_TabOk.calls k _ _ l0_0 a0_1 false _ (kC HR0_0) HC0_0.out A4.out) ?_
   rintro e w12 ⟨rfl, hb⟩
   refine ⟨_, rfl, ?_⟩
   replace BK261 := kb_ BK261 hb
   replace HB := Aside0.mk (below_step oB hb)
   refine hk_ hK 8 oH (fun hHeld => ?_)
   clear hK K
   refine pu_ 2 9 HT_ ?_
   refine pu_ 3 10 HT_ ?_
   refine pn_ 4 11 HT_ ?_
   refine pn_ 5 12 HT_ ?_
   refine pn_ 6 13 HT_ ?_
   refine pn_ 7 14 HT_ ?_
   refine pn_ 8 15 HT_ ?_
   refine pn_ 9 16 HT_ ?_
   refine pn_ 10 17 HT_ ?_
   refine pu_ 11 18 HT_ ?_
   refine dn_ HT_ ?_
   try go_wp2
   go_meet
   case rel => exact ⟨_, (true), oS, H', ⟨by first | omega | exact Nat.le_refl _⟩, ⟨oF BK261⟩, ⟨oB⟩⟩
 case rest =>
  clear HC2
  obtain ⟨kq, x18_1, rfl, HA, HJ1, BK261, HB⟩ := hcut
  cases kq with
  | zero => exact absurd HA.out (by simp [impl_TreeOk.j0])
  | succ kj1 =>
   have H := HA.out
   clear HA
   simp only [impl_TreeOk.j0] at H
   replace H := itB H
   rcases H with ⟨rfl, H⟩ | ⟨rfl, H⟩
   ·obtain rfl := Option.some.inj H
    go_wp2
    go_ret
    exact ⟨oE, oB⟩
   ·have H' := Aside0.mk H
    clear H
    obtain ⟨⟨_, _⟩, _, _⟩ := z2 BK261
    go_wp2
    go_loopg [22] kj1 (fun kq v22 w' => ∃ (x22_2 : Int), v22 = .int .i64 x22_2 ∧ Aside0 (impl_TreeOk.l0 kq l0_0 (l0_0.length : Int) x22_2 l0_0 a0_1 = some r) ∧ Aside0 (kq ≤ kj1) ∧ Aside0 (w'.heap[gb261]? = some (.cells #[(.slice A0_0 l0_0.length c0_0), .int .i64 a0_1] 26 (0, 0))) ∧ Aside0 (Below w.heap.size w w'))
    case atStart => exact ⟨(0), oS, H', ⟨Nat.le_refl _⟩, ⟨oF BK261⟩, ⟨oB⟩⟩
    case round =>
     clear H'
     obtain ⟨x22_2, rfl, HA, HK2, BK261, HB⟩ := hrel
     cases gk with
     | zero => exact absurd HA.out (by simp [impl_TreeOk.l0])
     | succ k2 =>
      have H := HA.out
      clear HA
      simp only [impl_TreeOk.l0] at H
      replace H := itD H
      rcases H with ⟨c15b0, H⟩ | ⟨c15b0, H⟩
      ·replace H := itD H
       rcases H with ⟨c16b0, H⟩ | ⟨c16b0, H⟩
       ·replace H := itD H
        rcases H with ⟨c17b0, H⟩ | ⟨c17b0, H⟩
        ·replace H := bA H
         obtain ⟨t268, A18, H⟩ := H
         try dsimp only at H
         by_cases c19 : ((rd_T51 l0_0 x22_2).f2) = t268
         ·rw [if_pos c19] at H
          have c19b0 : (((rd_T51 l0_0 x22_2).f2) == t268) = true := beq_iff_eq.mpr c19
          have c19b1 : (((rd_T51 l0_0 x22_2).f2) != t268) = false := bne_eq_false_iff_eq.mpr c19
          clear c19
          have H' := Aside0.mk H
          clear H
          have p266 : (0 ≤ (x22_2 : Int)) = True := oT
          have q266 : (x22_2 < (l0_0.length : Int)) = True := oT
          obtain ⟨ad266, A266_3, c266_3, A266_4, c266_4, A266_5, c266_5, e266, hx266_0, hx266_1, hx266_2, hx266_3, hx266_4, hx266_5, hl266_3, hi266_3, hl266_4, hi266_4, hl266_5, hi266_5⟩ := at_T51 HR0_0.out x22_2 oa oa
          cases e266
          replace hx266_0 := cB HB hx266_0
          replace hx266_1 := cB HB hx266_1
          replace hx266_2 := cB HB hx266_2
          replace hx266_3 := cB HB hx266_3
          replace hx266_4 := cB HB hx266_4
          replace hx266_5 := cB HB hx266_5
          have HR266_3 := Aside0.mk hi266_3
          have HC266_3 := Aside0.mk hl266_3
          clear hi266_3 hl266_3
          have HR266_4 := Aside0.mk hi266_4
          have HC266_4 := Aside0.mk hl266_4
          clear hi266_4 hl266_4
          have HR266_5 := Aside0.mk hi266_5
          have HC266_5 := Aside0.mk hl266_5
          clear hi266_5 hl266_5
          try go_wp2_with (first | ((with_reducible refine gate_dst (N := 4) rfl ?_); (try (refine gate_guard (by rfl) ?_; dsimp only)); refine bx_ 4 #[.int .i64 0, .int .i64 0, .int .i64 0, .slice none 0 0, .slice none 0 0, .slice none 0 0] 51 ?_; intro gb267 hg w20 hbox hb; have BK267 := Aside0.mk (hbox); have GW267 := gs_ hg; have NB261_267 := nl_ hg BK261; have NB267_261 := nr_ hg BK261; replace BK261 := kb_ BK261 hb; replace HB := Aside0.mk (below_step oB hb); clear hb hbox hg; have hnb21 := NB267_261.out; have hnc21 := NB261_267.out; obtain ⟨⟨_, _, _, _, _, _⟩, _, _, _, _, _, _⟩ := z6 BK267))
          generalize hW_ : ((((((w20.setCell ⟨gb267, 0, none⟩ (.int .i64 ((rd_T51 l0_0 x22_2).f0))).setCell ⟨gb267, 1, none⟩ (.int .i64 ((rd_T51 l0_0 x22_2).f1))).setCell ⟨gb267, 2, none⟩ (.int .i64 ((rd_T51 l0_0 x22_2).f2))).setCell ⟨gb267, 3, none⟩ (.slice A266_3 ((rd_T51 l0_0 x22_2).f3).length c266_3)).setCell ⟨gb267, 4, none⟩ (.slice A266_4 ((rd_T51 l0_0 x22_2).f4).length c266_4)).setCell ⟨gb267, 5, none⟩ (.slice A266_5 ((rd_T51 l0_0 x22_2).f5).length c266_5)) = w23
          replace BK261 := kw_ hW_ BK261
          replace BK267 := kv_ #[.int .i64 ((rd_T51 l0_0 x22_2).f0), .int .i64 ((rd_T51 l0_0 x22_2).f1), .int .i64 ((rd_T51 l0_0 x22_2).f2), .slice A266_3 ((rd_T51 l0_0 x22_2).f3).length c266_3, .slice A266_4 ((rd_T51 l0_0 x22_2).f4).length c266_4, .slice A266_5 ((rd_T51 l0_0 x22_2).f5).length c266_5] hW_ BK267
          replace HB := hw_ hW_ HB
          clear hW_
          replace BK261 := Aside0.mk (blk_drew BK261.out)
          replace BK267 := Aside0.mk (blk_drew BK267.out)
          replace HB := Aside0.mk (below_drew1 HB.out)
          refine s0_ 7 (fun w' => w'.cell? ⟨gb267, 0, none⟩ = some (.int .i64 ((rd_T51 l0_0 x22_2).f0)) ∧ w'.cell? ⟨gb267, 1, none⟩ = some (.int .i64 ((rd_T51 l0_0 x22_2).f1)) ∧ w'.cell? ⟨gb267, 2, none⟩ = some (.int .i64 ((rd_T51 l0_0 x22_2).f2)) ∧ w'.cell? ⟨gb267, 3, none⟩ = some (.slice A266_3 ((rd_T51 l0_0 x22_2).f3).length c266_3) ∧ w'.cell? ⟨gb267, 4, none⟩ = some (.slice A266_4 ((rd_T51 l0_0 x22_2).f4).length c266_4) ∧ w'.cell? ⟨gb267, 5, none⟩ = some (.slice A266_5 ((rd_T51 l0_0 x22_2).f5).length c266_5) ∧ w'.cell? ⟨gb261, 0, none⟩ = some (.slice (some ad266) l0_0.length c0_0) ∧ w'.cell? ⟨gb261, 1, none⟩ = some (.int .i64 a0_1)) oH (fun hHeld => ?_)
          generalize w23.drew = w24 at BK261 BK267 HB hHeld ⊢
          refine p0_ 0 26 ?_
          refine p0_ 3 29 ?_
          refine t0_ 1 27 hHeld ?_
          refine t0_ 2 28 hHeld ?_
          refine t0_ 4 30 hHeld ?_
          refine o0_ 5 31 (fun K hK => ?_)
          refine gr_ 31 Tryz.func40 (impl_LinksOf.calls k2 _ _ l0_0 a0_1 ((rd_T51 l0_0 x22_2).f0) t268 _ (kC HR0_0) HC0_0.out A18.out) ?_
          rintro e w25 ⟨rfl, hb⟩
          refine ⟨_, rfl, ?_⟩
          replace BK261 := kb_ BK261 hb
          replace BK267 := kb_ BK267 hb
          replace HB := Aside0.mk (below_step oB hb)
          refine hk_ hK 31 oH (fun hHeld => ?_)
          clear hK K
          refine p0_ 6 32 ?_
          refine done_ (by kernel_rfl) ?_
          obtain ⟨⟨_, _, _, _, _, _⟩, _, _, _, _, _, _⟩ := z6 BK267
          try go_wp2
          go_loopg [36] k2 (fun kq v36 w' => ∃ (x36_3 : Int), v36 = .int .i64 x36_3 ∧ Aside0 (impl_TreeOk.l1 kq l0_0 (l0_0.length : Int) x22_2 ((rd_T51 l0_0 x22_2).f4) (((rd_T51 l0_0 x22_2).f4).length : Int) x36_3 l0_0 a0_1 = some r) ∧ Aside0 (kq ≤ k2) ∧ Aside0 (w'.heap[gb261]? = some (.cells #[(.slice (some ad266) l0_0.length c0_0), .int .i64 a0_1] 26 (0, 0))) ∧ Aside0 (w'.heap[gb267]? = some (.cells #[.int .i64 ((rd_T51 l0_0 x22_2).f0), .int .i64 ((rd_T51 l0_0 x22_2).f1), .int .i64 ((rd_T51 l0_0 x22_2).f2), (.slice A266_3 ((rd_T51 l0_0 x22_2).f3).length c266_3), (.slice A266_4 ((rd_T51 l0_0 x22_2).f4).length c266_4), (.slice A266_5 ((rd_T51 l0_0 x22_2).f5).length c266_5)] 51 (0, 0))) ∧ Aside0 (Below w.heap.size w w'))
          case atStart => exact ⟨(0), oS, H', ⟨Nat.le_refl _⟩, ⟨oF BK261⟩, ⟨oF BK267⟩, ⟨oB⟩⟩
          case round =>
           clear H'
           try clear c15b0
           try clear c16b0
           try clear c17b0
           try clear c19
           obtain ⟨x36_3, rfl, HA, HK3, BK261, BK267, HB⟩ := hrel
           cases gk with
           | zero => exact absurd HA.out (by simp [impl_TreeOk.l1])
           | succ k3 =>
            have H := HA.out
            clear HA
            simp only [impl_TreeOk.l1] at H
            replace H := itD H
            rcases H with ⟨c27b0, H⟩ | ⟨c27b0, H⟩
            ·replace H := itD H
             rcases H with ⟨c28b0, H⟩ | ⟨c28b0, H⟩
             ·replace H := itD H
              rcases H with ⟨c29b0, H⟩ | ⟨c29b0, H⟩
              ·replace H := bA H
               obtain ⟨t271, A30, H⟩ := H
               try dsimp only at H
               replace H := itD H
               rcases H with ⟨c31b0, H⟩ | ⟨c31b0, H⟩
               ·obtain rfl := Option.some.inj H
                have p269 : (0 ≤ (x36_3 : Int)) = True := oT
                have q269 : (x36_3 < (((rd_T51 l0_0 x22_2).f4).length : Int)) = True := oT
                obtain ⟨ad269, e269, hx269_0, hx269_1⟩ := at_T65 HR266_4.out x36_3 oa oa
                cases e269
                replace hx269_0 := cB HB hx269_0
                replace hx269_1 := cB HB hx269_1
                go_wp2_with (first | ((with_reducible refine gate_dst (N := 6) rfl ?_); (try (refine gate_guard (by rfl) ?_; dsimp only)); refine bx_ 6 #[.string (⟨#[]⟩ : ByteArray), .int .i64 0] 65 ?_; intro gb270 hg w32 hbox hb; have BK270 := Aside0.mk (hbox); have GW270 := gs_ hg; have NB261_270 := nl_ hg BK261; have NB270_261 := nr_ hg BK261; have NB267_270 := nl_ hg BK267; have NB270_267 := nr_ hg BK267; replace BK261 := kb_ BK261 hb; replace BK267 := kb_ BK267 hb; replace HB := Aside0.mk (below_step oB hb); clear hb hbox hg; have hnb33 := NB270_261.out; have hnc33 := NB261_270.out; have hnb34 := NB270_267.out; have hnc34 := NB267_270.out; obtain ⟨⟨_, _⟩, _, _⟩ := z2 BK270; have hnb36 := NB261_267.out; have hnc36 := NB267_261.out; obtain ⟨⟨_, _⟩, _, _⟩ := z2 BK261) | ((with_reducible refine gate_callee (f := 41) rfl ?_); refine gl_ 43 Tryz.func41 (impl_placeOf.calls k3 _ _ l0_0 a0_1 ((rd_T65 ((rd_T51 l0_0 x22_2).f4) x36_3).f1) t271 _ ?side1 HC0_0.out A30.out) ?_; (case side1 => exact Kd.C_below HR0_0.out oB); rintro e w38 ⟨rfl, hb⟩; refine ⟨_, rfl, ?_⟩; replace BK261 := kb_ BK261 hb; replace BK267 := kb_ BK267 hb; replace BK270 := kp_ #[.string ((rd_T65 ((rd_T51 l0_0 x22_2).f4) x36_3).f0), .int .i64 ((rd_T65 ((rd_T51 l0_0 x22_2).f4) x36_3).f1)] BK270 hb; replace HB := Aside0.mk (below_step oB hb)))
                go_ret
                exact ⟨oE, oB⟩
               ·have H' := Aside0.mk H
                clear H
                have p269 : (0 ≤ (x36_3 : Int)) = True := oT
                have q269 : (x36_3 < (((rd_T51 l0_0 x22_2).f4).length : Int)) = True := oT
                obtain ⟨ad269, e269, hx269_0, hx269_1⟩ := at_T65 HR266_4.out x36_3 oa oa
                cases e269
                replace hx269_0 := cB HB hx269_0
                replace hx269_1 := cB HB hx269_1
                go_wp2_with (first | ((with_reducible refine gate_dst (N := 6) rfl ?_); (try (refine gate_guard (by rfl) ?_; dsimp only)); refine bx_ 6 #[.string (⟨#[]⟩ : ByteArray), .int .i64 0] 65 ?_; intro gb270 hg w39 hbox hb; have BK270 := Aside0.mk (hbox); have GW270 := gs_ hg; have NB261_270 := nl_ hg BK261; have NB270_261 := nr_ hg BK261; have NB267_270 := nl_ hg BK267; have NB270_267 := nr_ hg BK267; replace BK261 := kb_ BK261 hb; replace BK267 := kb_ BK267 hb; replace HB := Aside0.mk (below_step oB hb); clear hb hbox hg; have hnb40 := NB270_261.out; have hnc40 := NB261_270.out; have hnb41 := NB270_267.out; have hnc41 := NB267_270.out; obtain ⟨⟨_, _⟩, _, _⟩ := z2 BK270; have hnb43 := NB261_267.out; have hnc43 := NB267_261.out; obtain ⟨⟨_, _⟩, _, _⟩ := z2 BK261) | ((with_reducible refine gate_callee (f := 41) rfl ?_); refine gl_ 43 Tryz.func41 (impl_placeOf.calls k3 _ _ l0_0 a0_1 ((rd_T65 ((rd_T51 l0_0 x22_2).f4) x36_3).f1) t271 _ ?side1 HC0_0.out A30.out) ?_; (case side1 => exact Kd.C_below HR0_0.out oB); rintro e w45 ⟨rfl, hb⟩; refine ⟨_, rfl, ?_⟩; replace BK261 := kb_ BK261 hb; replace BK267 := kb_ BK267 hb; replace BK270 := kp_ #[.string ((rd_T65 ((rd_T51 l0_0 x22_2).f4) x36_3).f0), .int .i64 ((rd_T65 ((rd_T51 l0_0 x22_2).f4) x36_3).f1)] BK270 hb; replace HB := Aside0.mk (below_step oB hb)))
                go_roundg k3
                case measure => have := HJ1.out; have := HK2.out; have := HK3.out; omega
                case rel => exact ⟨(wrap64 (x36_3 + 1)), oS, H', ⟨by have := HJ1.out; have := HK2.out; have := HK3.out; omega⟩, ⟨oF BK261⟩, ⟨oF BK267⟩, ⟨oB⟩⟩
              ·cases H
             ·cases H
            ·have H' := Aside0.mk H
             clear H
             go_wp2
             go_roundg k3
             case measure => have := HJ1.out; have := HK2.out; have := HK3.out; omega
             case rel => exact ⟨(wrap64 (x22_2 + 1)), oS, H', ⟨by have := HJ1.out; have := HK2.out; have := HK3.out; omega⟩, ⟨oF BK261⟩, ⟨oB⟩⟩
         ·rw [if_neg c19] at H
          have c19b0 : (((rd_T51 l0_0 x22_2).f2) == t268) = false := beq_eq_false_iff_ne.mpr c19
          have c19b1 : (((rd_T51 l0_0 x22_2).f2) != t268) = true := bne_iff_ne.mpr c19
          obtain rfl := Option.some.inj H
          have p266 : (0 ≤ (x22_2 : Int)) = True := oT
          have q266 : (x22_2 < (l0_0.length : Int)) = True := oT
          obtain ⟨ad266, A266_3, c266_3, A266_4, c266_4, A266_5, c266_5, e266, hx266_0, hx266_1, hx266_2, hx266_3, hx266_4, hx266_5, hl266_3, hi266_3, hl266_4, hi266_4, hl266_5, hi266_5⟩ := at_T51 HR0_0.out x22_2 oa oa
          cases e266
          replace hx266_0 := cB HB hx266_0
          replace hx266_1 := cB HB hx266_1
          replace hx266_2 := cB HB hx266_2
          replace hx266_3 := cB HB hx266_3
          replace hx266_4 := cB HB hx266_4
          replace hx266_5 := cB HB hx266_5
          have HR266_3 := Aside0.mk hi266_3
          have HC266_3 := Aside0.mk hl266_3
          clear hi266_3 hl266_3
          have HR266_4 := Aside0.mk hi266_4
          have HC266_4 := Aside0.mk hl266_4
          clear hi266_4 hl266_4
          have HR266_5 := Aside0.mk hi266_5
          have HC266_5 := Aside0.mk hl266_5
          clear hi266_5 hl266_5
          try go_wp2_with (first | ((with_reducible refine gate_dst (N := 4) rfl ?_); (try (refine gate_guard (by rfl) ?_; dsimp only)); refine bx_ 4 #[.int .i64 0, .int .i64 0, .int .i64 0, .slice none 0 0, .slice none 0 0, .slice none 0 0] 51 ?_; intro gb267 hg w46 hbox hb; have BK267 := Aside0.mk (hbox); have GW267 := gs_ hg; have NB261_267 := nl_ hg BK261; have NB267_261 := nr_ hg BK261; replace BK261 := kb_ BK261 hb; replace HB := Aside0.mk (below_step oB hb); clear hb hbox hg; have hnb47 := NB267_261.out; have hnc47 := NB261_267.out; obtain ⟨⟨_, _, _, _, _, _⟩, _, _, _, _, _, _⟩ := z6 BK267))
          generalize hW_ : ((((((w46.setCell ⟨gb267, 0, none⟩ (.int .i64 ((rd_T51 l0_0 x22_2).f0))).setCell ⟨gb267, 1, none⟩ (.int .i64 ((rd_T51 l0_0 x22_2).f1))).setCell ⟨gb267, 2, none⟩ (.int .i64 ((rd_T51 l0_0 x22_2).f2))).setCell ⟨gb267, 3, none⟩ (.slice A266_3 ((rd_T51 l0_0 x22_2).f3).length c266_3)).setCell ⟨gb267, 4, none⟩ (.slice A266_4 ((rd_T51 l0_0 x22_2).f4).length c266_4)).setCell ⟨gb267, 5, none⟩ (.slice A266_5 ((rd_T51 l0_0 x22_2).f5).length c266_5)) = w49
          replace BK261 := kw_ hW_ BK261
          replace BK267 := kv_ #[.int .i64 ((rd_T51 l0_0 x22_2).f0), .int .i64 ((rd_T51 l0_0 x22_2).f1), .int .i64 ((rd_T51 l0_0 x22_2).f2), .slice A266_3 ((rd_T51 l0_0 x22_2).f3).length c266_3, .slice A266_4 ((rd_T51 l0_0 x22_2).f4).length c266_4, .slice A266_5 ((rd_T51 l0_0 x22_2).f5).length c266_5] hW_ BK267
          replace HB := hw_ hW_ HB
          clear hW_
          replace BK261 := Aside0.mk (blk_drew BK261.out)
          replace BK267 := Aside0.mk (blk_drew BK267.out)
          replace HB := Aside0.mk (below_drew1 HB.out)
          refine s0_ 7 (fun w' => w'.cell? ⟨gb267, 0, none⟩ = some (.int .i64 ((rd_T51 l0_0 x22_2).f0)) ∧ w'.cell? ⟨gb267, 1, none⟩ = some (.int .i64 ((rd_T51 l0_0 x22_2).f1)) ∧ w'.cell? ⟨gb267, 2, none⟩ = some (.int .i64 ((rd_T51 l0_0 x22_2).f2)) ∧ w'.cell? ⟨gb267, 3, none⟩ = some (.slice A266_3 ((rd_T51 l0_0 x22_2).f3).length c266_3) ∧ w'.cell? ⟨gb267, 4, none⟩ = some (.slice A266_4 ((rd_T51 l0_0 x22_2).f4).length c266_4) ∧ w'.cell? ⟨gb267, 5, none⟩ = some (.slice A266_5 ((rd_T51 l0_0 x22_2).f5).length c266_5) ∧ w'.cell? ⟨gb261, 0, none⟩ = some (.slice (some ad266) l0_0.length c0_0) ∧ w'.cell? ⟨gb261, 1, none⟩ = some (.int .i64 a0_1)) oH (fun hHeld => ?_)
          generalize w49.drew = w50 at BK261 BK267 HB hHeld ⊢
          refine p0_ 0 26 ?_
          refine p0_ 3 29 ?_
          refine t0_ 1 27 hHeld ?_
          refine t0_ 2 28 hHeld ?_
          refine t0_ 4 30 hHeld ?_
          refine o0_ 5 31 (fun K hK => ?_)
          refine gr_ 31 Tryz.func40 (impl_LinksOf.calls k2 _ _ l0_0 a0_1 ((rd_T51 l0_0 x22_2).f0) t268 _ (kC HR0_0) HC0_0.out A18.out) ?_
          rintro e w51 ⟨rfl, hb⟩
          refine ⟨_, rfl, ?_⟩
          replace BK261 := kb_ BK261 hb
          replace BK267 := kb_ BK267 hb
          replace HB := Aside0.mk (below_step oB hb)
          refine hk_ hK 31 oH (fun hHeld => ?_)
          clear hK K
          refine p0_ 6 32 ?_
          refine done_ (by kernel_rfl) ?_
          try go_wp2
          go_ret
          exact ⟨oE, oB⟩
        ·cases H
       ·cases H
      ·obtain rfl := Option.some.inj H
       go_wp2
       go_ret
       exact ⟨oE, oB⟩

end Go.Proofs.YtkcfmbggdkkfeaaGreatDoor.P
