-- By this session's own program (wip/myprint.py) out of the translation; Lean checks it.
import Derived.Test.YtkcfmbggdkkfeaaGreatDoorPx0
import Derived.Test.YtkcfmbggdkkfeaaGreatDoorPx3
import Derived.Test.YtkcfmbggdkkfeaaGreatDoorPx5
import Derived.Test.YtkcfmbggdkkfeaaGreatDoorPx6
namespace Go.Proofs.YtkcfmbggdkkfeaaGreatDoor.P
open Go.RowKit Go.Proofs.YtkcfmbggdkkfeaaGreatDoorW.PrintWords Go.Proofs.YtkcfmbggdkkfeaaGreatDoorW.PrintLast Go.Proofs.YtkcfmbggdkkfeaaGreatDoorW.PrintMore
attribute [local go_sem] max2_int min2_int max_two min_two max_three min_three max_four min_four   -- for this text's walks alone
set_option linter.unusedVariables false
set_option linter.unusedSimpArgs false

/-! ### impl_TabOk: function 38 -/
mutual
def impl_TabOk.j0 : Nat → Bool → List (S51) → Int → Option (Bool)
 | 0, _, _, _ => none
 | k + 1, x16, x203000, x203001 => if x16 = true then (some false) else (impl_TabOk.l0 k x203000 (x203000.length : Int) 0 x203000 x203001)
def impl_TabOk.l0 : Nat → List (S51) → Int → Int → List (S51) → Int → Option (Bool)
 | 0, _, _, _, _, _ => none
 | k + 1, x18, x19, x20, x203000, x203001 => if x20 < x19 then (if 0 ≤ x20 then (if x20 < (x18.length : Int) then ((impl_InodeOk.f k ((rd_T51 x18 x20).f0) ((rd_T51 x18 x20).f1) ((rd_T51 x18 x20).f2) ((rd_T51 x18 x20).f3) ((rd_T51 x18 x20).f4) ((rd_T51 x18 x20).f5)).bind fun t206 => (if t206 = true then (if ((rd_T51 x18 x20).f0) ≥ x203001 then (some false) else (if x20 > 0 then (if 0 ≤ (wrap64 (x20 - 1)) then (if (wrap64 (x20 - 1)) < (x203000.length : Int) then (if ((rd_T51 x203000 (wrap64 (x20 - 1))).f0) ≥ ((rd_T51 x18 x20).f0) then (some false) else (impl_TabOk.l0 k x18 x19 (wrap64 (x20 + 1)) x203000 x203001)) else (none)) else (none)) else (impl_TabOk.l0 k x18 x19 (wrap64 (x20 + 1)) x203000 x203001))) else (some false))) else (none)) else (none)) else ((impl_InodeAt.f k x203000 x203001 1).bind fun bt208 => (if bt208.2.2.2.2.2.2 = true then (some (bt208.2.1 == 2)) else (some false)))
end
def impl_TabOk.f (k : Nat) (l0_0 : List (S51)) (a0_1 : Int) : Option (Bool) := if (l0_0.length : Int) > 30 then (impl_TabOk.j0 k true l0_0 a0_1) else ((impl_from.f a0_1 2 1000).bind fun t203 => (impl_TabOk.j0 k (!t203) l0_0 a0_1))
def impl_TabOk.T6 : Bool × List (List Nat × List Nat) := (true, [([], []), ([0], [0]), ([1], [1]), ([2, 1], [2]), ([3], [3]), ([4, 3], [3, 4]), ([3], [3]), ([6, 3], [3, 6]), ([5, 7, 3], [3, 5, 7]), ([3, 8], [3, 8]), ([9, 3], [9]), ([10], [10]), ([11, 10], [10, 11]), ([12, 10, 10], [10, 12]), ([13], [13]), ([14, 13], [13, 14]), ([13], [13]), ([16, 13], [13, 16]), ([15, 17, 13], [13, 15, 17]), ([18, 13], [13, 18]), ([19, 13], [13, 19]), ([13], [13]), ([21, 13], [13, 21]), ([20, 22, 13], [13, 20, 22]), ([13, 23, 10], [10, 13, 23]), ([10, 24], [10, 24])])
def impl_TabOk.B6 : List Nat := [0, 1, 3, 7, 15, 31, 15, 79, 255, 511, 1023, 2047, 4095, 8191, 16383, 32767, 16383, 81919, 262143, 524287, 1048575, 16383, 2113535, 8388607, 16777215, 33554431]
theorem impl_TabOk.tab6 : rtab .any (opsOf Tryz.f38 6) = impl_TabOk.T6 := by kernel_rfl
theorem impl_TabOk.bits6 : waitsOk impl_TabOk.T6.2 impl_TabOk.B6 = true := by kernel_rfl
set_option maxHeartbeats 8000000 in
set_option maxRecDepth 100000 in
theorem impl_TabOk.calls (k : Nat) (A0_0 : Option Addr) (c0_0 : Nat) (l0_0 : List (S51)) (a0_1 : Int) (r : Bool) (w : World) (hr0_0 : Kd.C k51 w A0_0 l0_0.length l0_0) (hc0_0 : l0_0.length ≤ c0_0) (h : impl_TabOk.f k l0_0 a0_1 = some r) :
  Calls Tryz.prog 38 #[.agg #[.slice A0_0 l0_0.length c0_0, .int .i64 a0_1]] w fun e w' => e = .returned (.bool r) ∧ Below w.heap.size w w' := by
 have hu26 := Tryz.underlying26
 have hu51 := Tryz.underlying51
 have HR0_0 := Aside0.mk hr0_0
 have HC0_0 := Aside0.mk hc0_0
 clear hr0_0 hc0_0
 have HB := Aside0.mk (Below.refl w.heap.size w)
 unfold impl_TabOk.f at h
 have H := h
 clear h
 have HC2 := Aside0.mk H
 clear H
 go_enter Tryz.func38, Tryz.ntmps38
 go_upto_region 1 with (first | ((with_reducible refine gate_dst (N := 1) rfl ?_); refine bx_ 1 #[.slice A0_0 l0_0.length c0_0, .int .i64 a0_1] 26 ?_; intro gb202 hg w3 hbox hb; have BK202 := Aside0.mk (hbox); have GW202 := gs_ hg; replace HB := Aside0.mk (below_step oB hb); clear hb hbox hg))
 (try simp only [Act.put, List.setIfInBounds_toArray, List.set_cons_zero, List.set_cons_succ])
 go_cut [16] (fun v16 wc => ∃ (kq : Nat) (x16_1 : Bool), v16 = .bool x16_1 ∧ Aside0 (impl_TabOk.j0 kq x16_1 l0_0 a0_1 = some r) ∧ Aside0 (kq ≤ k) ∧ Aside0 (wc.heap[gb202]? = some (.cells #[(.slice A0_0 l0_0.length c0_0), .int .i64 a0_1] 26 (0, 0))) ∧ Aside0 (Below w.heap.size w wc))
 case first =>
  have H := HC2.out
  clear HC2
  by_cases c4 : (l0_0.length : Int) > 30
  ·rw [if_pos c4] at H
   have c4b0 : decide (30 < (l0_0.length : Int)) = true := decide_eq_true c4
   have c4b1 : decide (30 < l0_0.length) = true := decide_eq_true (by omega)
   clear c4
   (first | rw [c4b0] | rw [c4b2] | (simp only [i64_w, i32_w]; rw [c4b0]) | skip)
   have H' := Aside0.mk H
   clear H
   obtain ⟨⟨_, _⟩, _, _⟩ := z2 BK202
   go_wp2
   go_meet
   case rel => exact ⟨_, (true), oS, H', ⟨by first | omega | exact Nat.le_refl _⟩, ⟨oF BK202⟩, ⟨oB⟩⟩
  ·rw [if_neg c4] at H
   have c4b0 : decide (30 < (l0_0.length : Int)) = false := decide_eq_false c4
   have c4b1 : decide (30 < l0_0.length) = false := decide_eq_false (by omega)
   clear c4
   (first | rw [c4b0] | rw [c4b2] | (simp only [i64_w, i32_w]; rw [c4b0]) | skip)
   replace H := bA H
   obtain ⟨t203, A6, H⟩ := H
   try dsimp only at H
   have H' := Aside0.mk H
   clear H
   obtain ⟨⟨_, _⟩, _, _⟩ := z2 BK202
   go_wp2_with (first | (go_at_call 47; (with_reducible refine (impl_from.calls a0_1 2 1000 t203 _ A6.out).mono ?_); rintro e w' ⟨rfl, ⟨nd, rfl⟩⟩))
   go_meet
   case rel => exact ⟨_, (!t203), oS, H', ⟨by first | omega | exact Nat.le_refl _⟩, ⟨oF BK202⟩, ⟨oB⟩⟩
 case rest =>
  clear HC2
  obtain ⟨kq, x16_1, rfl, HA, HJ1, BK202, HB⟩ := hcut
  cases kq with
  | zero => exact absurd HA.out (by simp [impl_TabOk.j0])
  | succ kj1 =>
   have H := HA.out
   clear HA
   simp only [impl_TabOk.j0] at H
   replace H := itB H
   rcases H with ⟨rfl, H⟩ | ⟨rfl, H⟩
   ·obtain rfl := Option.some.inj H
    go_wp2
    go_ret
    exact ⟨oE, oB⟩
   ·have H' := Aside0.mk H
    clear H
    obtain ⟨⟨_, _⟩, _, _⟩ := z2 BK202
    go_wp2
    go_loopg [20] kj1 (fun kq v20 w' => ∃ (x20_2 : Int), v20 = .int .i64 x20_2 ∧ Aside0 (impl_TabOk.l0 kq l0_0 (l0_0.length : Int) x20_2 l0_0 a0_1 = some r) ∧ Aside0 (kq ≤ kj1) ∧ Aside0 (w'.heap[gb202]? = some (.cells #[(.slice A0_0 l0_0.length c0_0), .int .i64 a0_1] 26 (0, 0))) ∧ Aside0 (Below w.heap.size w w'))
    case atStart => exact ⟨(0), oS, H', ⟨Nat.le_refl _⟩, ⟨oF BK202⟩, ⟨oB⟩⟩
    case round =>
     clear H'
     obtain ⟨x20_2, rfl, HA, HK2, BK202, HB⟩ := hrel
     cases gk with
     | zero => exact absurd HA.out (by simp [impl_TabOk.l0])
     | succ k2 =>
      have H := HA.out
      clear HA
      simp only [impl_TabOk.l0] at H
      replace H := itD H
      rcases H with ⟨c10b0, H⟩ | ⟨c10b0, H⟩
      ·replace H := itD H
       rcases H with ⟨c11b0, H⟩ | ⟨c11b0, H⟩
       ·replace H := itD H
        rcases H with ⟨c12b0, H⟩ | ⟨c12b0, H⟩
        ·replace H := bA H
         obtain ⟨t206, A13, H⟩ := H
         try dsimp only at H
         replace H := itB H
         rcases H with ⟨rfl, H⟩ | ⟨rfl, H⟩
         ·replace H := itH H
          rcases H with ⟨c15b0, H⟩ | ⟨c15b0, H⟩
          ·obtain rfl := Option.some.inj H
           have p204 : (0 ≤ (x20_2 : Int)) = True := oT
           have q204 : (x20_2 < (l0_0.length : Int)) = True := oT
           obtain ⟨ad204, A204_3, c204_3, A204_4, c204_4, A204_5, c204_5, e204, hx204_0, hx204_1, hx204_2, hx204_3, hx204_4, hx204_5, hl204_3, hi204_3, hl204_4, hi204_4, hl204_5, hi204_5⟩ := at_T51 HR0_0.out x20_2 oa oa
           cases e204
           replace hx204_0 := cB HB hx204_0
           replace hx204_1 := cB HB hx204_1
           replace hx204_2 := cB HB hx204_2
           replace hx204_3 := cB HB hx204_3
           replace hx204_4 := cB HB hx204_4
           replace hx204_5 := cB HB hx204_5
           have HR204_3 := Aside0.mk hi204_3
           have HC204_3 := Aside0.mk hl204_3
           clear hi204_3 hl204_3
           have HR204_4 := Aside0.mk hi204_4
           have HC204_4 := Aside0.mk hl204_4
           clear hi204_4 hl204_4
           have HR204_5 := Aside0.mk hi204_5
           have HC204_5 := Aside0.mk hl204_5
           clear hi204_5 hl204_5
           try go_wp2_with (first | ((with_reducible refine gate_dst (N := 4) rfl ?_); refine bx_ 4 #[.int .i64 0, .int .i64 0, .int .i64 0, .slice none 0 0, .slice none 0 0, .slice none 0 0] 51 ?_; intro gb205 hg w16 hbox hb; have BK205 := Aside0.mk (hbox); have GW205 := gs_ hg; have NB202_205 := nl_ hg BK202; have NB205_202 := nr_ hg BK202; replace BK202 := kb_ BK202 hb; replace HB := Aside0.mk (below_step oB hb); clear hb hbox hg; have hnb17 := NB205_202.out; have hnc17 := NB202_205.out; obtain ⟨⟨_, _, _, _, _, _⟩, _, _, _, _, _, _⟩ := z6 BK205))
           generalize hW_ : ((((((w16.setCell ⟨gb205, 0, none⟩ (.int .i64 ((rd_T51 l0_0 x20_2).f0))).setCell ⟨gb205, 1, none⟩ (.int .i64 ((rd_T51 l0_0 x20_2).f1))).setCell ⟨gb205, 2, none⟩ (.int .i64 ((rd_T51 l0_0 x20_2).f2))).setCell ⟨gb205, 3, none⟩ (.slice A204_3 ((rd_T51 l0_0 x20_2).f3).length c204_3)).setCell ⟨gb205, 4, none⟩ (.slice A204_4 ((rd_T51 l0_0 x20_2).f4).length c204_4)).setCell ⟨gb205, 5, none⟩ (.slice A204_5 ((rd_T51 l0_0 x20_2).f5).length c204_5)) = w19
           replace BK202 := kw_ hW_ BK202
           replace BK205 := kv_ #[.int .i64 ((rd_T51 l0_0 x20_2).f0), .int .i64 ((rd_T51 l0_0 x20_2).f1), .int .i64 ((rd_T51 l0_0 x20_2).f2), .slice A204_3 ((rd_T51 l0_0 x20_2).f3).length c204_3, .slice A204_4 ((rd_T51 l0_0 x20_2).f4).length c204_4, .slice A204_5 ((rd_T51 l0_0 x20_2).f5).length c204_5] hW_ BK205
           replace HB := hw_ hW_ HB
           clear hW_
           replace BK202 := Aside0.mk (blk_drew BK202.out)
           replace BK205 := Aside0.mk (blk_drew BK205.out)
           replace HB := Aside0.mk (below_drew1 HB.out)
           refine st_ 26 (fun w' => w'.cell? ⟨gb205, 0, none⟩ = some (.int .i64 ((rd_T51 l0_0 x20_2).f0)) ∧ w'.cell? ⟨gb205, 1, none⟩ = some (.int .i64 ((rd_T51 l0_0 x20_2).f1)) ∧ w'.cell? ⟨gb205, 2, none⟩ = some (.int .i64 ((rd_T51 l0_0 x20_2).f2)) ∧ w'.cell? ⟨gb205, 3, none⟩ = some (.slice A204_3 ((rd_T51 l0_0 x20_2).f3).length c204_3) ∧ w'.cell? ⟨gb205, 4, none⟩ = some (.slice A204_4 ((rd_T51 l0_0 x20_2).f4).length c204_4) ∧ w'.cell? ⟨gb205, 5, none⟩ = some (.slice A204_5 ((rd_T51 l0_0 x20_2).f5).length c204_5) ∧ w'.cell? ⟨gb202, 0, none⟩ = some (.slice (some ad204) l0_0.length c0_0) ∧ w'.cell? ⟨gb202, 1, none⟩ = some (.int .i64 a0_1)) impl_TabOk.tab6 impl_TabOk.bits6 oH (fun hHeld HT_ HW_ => ?_)
           generalize w19.drew = w20 at BK202 BK205 HB hHeld ⊢
           refine ta_ 0 25 HT_ HW_ hHeld ?_
           refine on_ 1 26 HT_ (fun K hK => ?_)
           refine gr_ 26 Tryz.func66 (impl_InodeOk.calls k2 ((rd_T51 l0_0 x20_2).f0) ((rd_T51 l0_0 x20_2).f1) ((rd_T51 l0_0 x20_2).f2) _ _ ((rd_T51 l0_0 x20_2).f3) _ _ ((rd_T51 l0_0 x20_2).f4) _ _ ((rd_T51 l0_0 x20_2).f5) true _ (kC HR204_3) HC204_3.out (kC HR204_4) HC204_4.out (kC HR204_5) HC204_5.out A13.out) ?_
           rintro e w21 ⟨rfl, hb⟩
           refine ⟨_, rfl, ?_⟩
           replace BK202 := kb_ BK202 hb
           replace BK205 := kb_ BK205 hb
           replace HB := Aside0.mk (below_step oB hb)
           refine hk_ hK 26 oH (fun hHeld => ?_)
           clear hK K
           refine pu_ 2 27 HT_ ?_
           refine pu_ 3 28 HT_ ?_
           refine pu_ 4 29 HT_ ?_
           refine pu_ 6 31 HT_ ?_
           refine ta_ 5 30 HT_ HW_ hHeld ?_
           refine ta_ 7 32 HT_ HW_ hHeld ?_
           refine pu_ 8 33 HT_ ?_
           refine pu_ 9 34 HT_ ?_
           refine pu_ 10 35 HT_ ?_
           refine pn_ 11 36 HT_ ?_
           refine pn_ 12 37 HT_ ?_
           refine pn_ 13 38 HT_ ?_
           refine pn_ 14 39 HT_ ?_
           refine pn_ 15 40 HT_ ?_
           refine pn_ 16 41 HT_ ?_
           refine pn_ 17 42 HT_ ?_
           refine pn_ 18 43 HT_ ?_
           refine pn_ 19 44 HT_ ?_
           refine pn_ 20 45 HT_ ?_
           refine pn_ 21 46 HT_ ?_
           refine pn_ 22 47 HT_ ?_
           refine pn_ 23 48 HT_ ?_
           refine pn_ 24 49 HT_ ?_
           refine pu_ 25 50 HT_ ?_
           refine dn_ HT_ ?_
           try go_wp2
           go_ret
           exact ⟨oE, oB⟩
          ·replace H := itG H
           rcases H with ⟨c22b0, H⟩ | ⟨c22b0, H⟩
           ·obtain ⟨ji23, hji23⟩ : ∃ j_ : Int, (wrap64 (x20_2 - 1)) = j_ := ⟨_, rfl⟩
            replace H : (if 0 ≤ (ji23) then (if (ji23) < (l0_0.length : Int) then (if ((rd_T51 l0_0 (ji23)).f0) ≥ ((rd_T51 l0_0 x20_2).f0) then (some false) else (impl_TabOk.l0 k2 l0_0 (l0_0.length : Int) (wrap64 (x20_2 + 1)) l0_0 a0_1)) else (none)) else (none)) = some r := by first | (rw [hji23] at H; exact H) | (simp only [hji23] at H ⊢; exact H)
            (try rw [hji23] at A13)
            have hji23w : (IntKind.i64.wrap (x20_2 - 1)) = ji23 := (i64_w _).trans hji23
            replace H := itD H
            rcases H with ⟨c24b0, H⟩ | ⟨c24b0, H⟩
            ·replace H := itD H
             rcases H with ⟨c25b0, H⟩ | ⟨c25b0, H⟩
             ·replace H := itH H
              rcases H with ⟨c26b0, H⟩ | ⟨c26b0, H⟩
              ·obtain rfl := Option.some.inj H
               have p204 : (0 ≤ (x20_2 : Int)) = True := oT
               have q204 : (x20_2 < (l0_0.length : Int)) = True := oT
               obtain ⟨ad204, A204_3, c204_3, A204_4, c204_4, A204_5, c204_5, e204, hx204_0, hx204_1, hx204_2, hx204_3, hx204_4, hx204_5, hl204_3, hi204_3, hl204_4, hi204_4, hl204_5, hi204_5⟩ := at_T51 HR0_0.out x20_2 oa oa
               cases e204
               replace hx204_0 := cB HB hx204_0
               replace hx204_1 := cB HB hx204_1
               replace hx204_2 := cB HB hx204_2
               replace hx204_3 := cB HB hx204_3
               replace hx204_4 := cB HB hx204_4
               replace hx204_5 := cB HB hx204_5
               have HR204_3 := Aside0.mk hi204_3
               have HC204_3 := Aside0.mk hl204_3
               clear hi204_3 hl204_3
               have HR204_4 := Aside0.mk hi204_4
               have HC204_4 := Aside0.mk hl204_4
               clear hi204_4 hl204_4
               have HR204_5 := Aside0.mk hi204_5
               have HC204_5 := Aside0.mk hl204_5
               clear hi204_5 hl204_5
               try go_wp2_with (first | ((with_reducible refine gate_dst (N := 4) rfl ?_); refine bx_ 4 #[.int .i64 0, .int .i64 0, .int .i64 0, .slice none 0 0, .slice none 0 0, .slice none 0 0] 51 ?_; intro gb205 hg w27 hbox hb; have BK205 := Aside0.mk (hbox); have GW205 := gs_ hg; have NB202_205 := nl_ hg BK202; have NB205_202 := nr_ hg BK202; replace BK202 := kb_ BK202 hb; replace HB := Aside0.mk (below_step oB hb); clear hb hbox hg; have hnb28 := NB205_202.out; have hnc28 := NB202_205.out; obtain ⟨⟨_, _, _, _, _, _⟩, _, _, _, _, _, _⟩ := z6 BK205))
               generalize hW_ : ((((((w27.setCell ⟨gb205, 0, none⟩ (.int .i64 ((rd_T51 l0_0 x20_2).f0))).setCell ⟨gb205, 1, none⟩ (.int .i64 ((rd_T51 l0_0 x20_2).f1))).setCell ⟨gb205, 2, none⟩ (.int .i64 ((rd_T51 l0_0 x20_2).f2))).setCell ⟨gb205, 3, none⟩ (.slice A204_3 ((rd_T51 l0_0 x20_2).f3).length c204_3)).setCell ⟨gb205, 4, none⟩ (.slice A204_4 ((rd_T51 l0_0 x20_2).f4).length c204_4)).setCell ⟨gb205, 5, none⟩ (.slice A204_5 ((rd_T51 l0_0 x20_2).f5).length c204_5)) = w30
               replace BK202 := kw_ hW_ BK202
               replace BK205 := kv_ #[.int .i64 ((rd_T51 l0_0 x20_2).f0), .int .i64 ((rd_T51 l0_0 x20_2).f1), .int .i64 ((rd_T51 l0_0 x20_2).f2), .slice A204_3 ((rd_T51 l0_0 x20_2).f3).length c204_3, .slice A204_4 ((rd_T51 l0_0 x20_2).f4).length c204_4, .slice A204_5 ((rd_T51 l0_0 x20_2).f5).length c204_5] hW_ BK205
               replace HB := hw_ hW_ HB
               clear hW_
               replace BK202 := Aside0.mk (blk_drew BK202.out)
               replace BK205 := Aside0.mk (blk_drew BK205.out)
               replace HB := Aside0.mk (below_drew1 HB.out)
               have p207 : (0 ≤ ((ji23) : Int)) = True := oT
               have q207 : ((ji23) < (l0_0.length : Int)) = True := oT
               obtain ⟨ad207, A207_3, c207_3, A207_4, c207_4, A207_5, c207_5, e207, hx207_0, hx207_1, hx207_2, hx207_3, hx207_4, hx207_5, hl207_3, hi207_3, hl207_4, hi207_4, hl207_5, hi207_5⟩ := at_T51 HR0_0.out (ji23) oa oa
               have hw207_5 := hx207_5
               have hw207_4 := hx207_4
               have hw207_3 := hx207_3
               have hw207_2 := hx207_2
               have hw207_1 := hx207_1
               have hw207_0 := hx207_0
               obtain rfl : ad204 = ad207 := (by injection e207)
               replace hx207_0 := cB HB hx207_0
               replace hx207_1 := cB HB hx207_1
               replace hx207_2 := cB HB hx207_2
               replace hx207_3 := cB HB hx207_3
               replace hx207_4 := cB HB hx207_4
               replace hx207_5 := cB HB hx207_5
               have HR207_3 := Aside0.mk hi207_3
               have HC207_3 := Aside0.mk hl207_3
               clear hi207_3 hl207_3
               have HR207_4 := Aside0.mk hi207_4
               have HC207_4 := Aside0.mk hl207_4
               clear hi207_4 hl207_4
               have HR207_5 := Aside0.mk hi207_5
               have HC207_5 := Aside0.mk hl207_5
               clear hi207_5 hl207_5
               refine st_ 26 (fun w' => w'.cell? ⟨gb205, 0, none⟩ = some (.int .i64 ((rd_T51 l0_0 x20_2).f0)) ∧ w'.cell? ⟨gb205, 1, none⟩ = some (.int .i64 ((rd_T51 l0_0 x20_2).f1)) ∧ w'.cell? ⟨gb205, 2, none⟩ = some (.int .i64 ((rd_T51 l0_0 x20_2).f2)) ∧ w'.cell? ⟨gb205, 3, none⟩ = some (.slice A204_3 ((rd_T51 l0_0 x20_2).f3).length c204_3) ∧ w'.cell? ⟨gb205, 4, none⟩ = some (.slice A204_4 ((rd_T51 l0_0 x20_2).f4).length c204_4) ∧ w'.cell? ⟨gb205, 5, none⟩ = some (.slice A204_5 ((rd_T51 l0_0 x20_2).f5).length c204_5) ∧ w'.cell? ⟨gb202, 0, none⟩ = some (.slice (some ad204) l0_0.length c0_0) ∧ w'.cell? ⟨gb202, 1, none⟩ = some (.int .i64 a0_1) ∧ w'.cell? (ad204.add (((ji23)).toNat * 6)) = some (.int .i64 ((rd_T51 l0_0 (ji23)).f0)) ∧ w'.cell? ⟨(ad204.add (((ji23)).toNat * 6)).block, (ad204.add (((ji23)).toNat * 6)).off + 1, none⟩ = some (.int .i64 ((rd_T51 l0_0 (ji23)).f1)) ∧ w'.cell? ⟨(ad204.add (((ji23)).toNat * 6)).block, (ad204.add (((ji23)).toNat * 6)).off + 2, none⟩ = some (.int .i64 ((rd_T51 l0_0 (ji23)).f2)) ∧ w'.cell? ⟨(ad204.add (((ji23)).toNat * 6)).block, (ad204.add (((ji23)).toNat * 6)).off + 3, none⟩ = some (.slice A207_3 ((rd_T51 l0_0 (ji23)).f3).length c207_3) ∧ w'.cell? ⟨(ad204.add (((ji23)).toNat * 6)).block, (ad204.add (((ji23)).toNat * 6)).off + 4, none⟩ = some (.slice A207_4 ((rd_T51 l0_0 (ji23)).f4).length c207_4) ∧ w'.cell? ⟨(ad204.add (((ji23)).toNat * 6)).block, (ad204.add (((ji23)).toNat * 6)).off + 5, none⟩ = some (.slice A207_5 ((rd_T51 l0_0 (ji23)).f5).length c207_5)) impl_TabOk.tab6 impl_TabOk.bits6 oH (fun hHeld HT_ HW_ => ?_)
               generalize w30.drew = w31 at BK202 BK205 HB HR207_3 HR207_4 HR207_5 hx207_0 hx207_1 hx207_2 hx207_3 hx207_4 hx207_5 hHeld ⊢
               refine ta_ 0 25 HT_ HW_ hHeld ?_
               refine on_ 1 26 HT_ (fun K hK => ?_)
               refine gr_ 26 Tryz.func66 (impl_InodeOk.calls k2 ((rd_T51 l0_0 x20_2).f0) ((rd_T51 l0_0 x20_2).f1) ((rd_T51 l0_0 x20_2).f2) _ _ ((rd_T51 l0_0 x20_2).f3) _ _ ((rd_T51 l0_0 x20_2).f4) _ _ ((rd_T51 l0_0 x20_2).f5) true _ (kC HR204_3) HC204_3.out (kC HR204_4) HC204_4.out (kC HR204_5) HC204_5.out A13.out) ?_
               rintro e w32 ⟨rfl, hb⟩
               refine ⟨_, rfl, ?_⟩
               replace BK202 := kb_ BK202 hb
               replace BK205 := kb_ BK205 hb
               replace HB := Aside0.mk (below_step oB hb)
               refine hk_ hK 26 oH (fun hHeld => ?_)
               clear hK K
               refine pu_ 2 27 HT_ ?_
               refine pu_ 3 28 HT_ ?_
               refine pu_ 4 29 HT_ ?_
               refine pu_ 6 31 HT_ ?_
               refine ta_ 5 30 HT_ HW_ hHeld ?_
               refine ta_ 7 32 HT_ HW_ hHeld ?_
               refine pu_ 8 33 HT_ ?_
               refine pu_ 9 34 HT_ ?_
               refine pu_ 10 35 HT_ ?_
               refine pu_ 11 36 HT_ ?_
               refine pu_ 12 37 HT_ ?_
               refine pu_ 13 38 HT_ ?_
               refine pu_ 14 39 HT_ ?_
               refine pu_ 16 41 HT_ ?_
               refine pu_ 17 42 HT_ ?_
               refine pu_ 21 46 HT_ ?_
               refine ta_ 15 40 HT_ HW_ hHeld ?_
               refine pu_ 18 43 HT_ ?_
               refine pu_ 19 44 HT_ ?_
               refine ta_ 20 45 HT_ HW_ hHeld ?_
               refine ta_ 22 47 HT_ HW_ hHeld ?_
               refine pu_ 23 48 HT_ ?_
               refine pu_ 24 49 HT_ ?_
               refine pu_ 25 50 HT_ ?_
               refine dn_ HT_ ?_
               try go_wp2
               go_ret
               exact ⟨by first | rfl | (simp [errW_none, errW_some] <;> rfl) | (simp only [← hji23]; first | rfl | (simp [errW_none, errW_some] <;> rfl)) | (simp [*, errW_none, errW_some] <;> rfl), oB⟩
              ·have H' := Aside0.mk H
               clear H
               have p204 : (0 ≤ (x20_2 : Int)) = True := oT
               have q204 : (x20_2 < (l0_0.length : Int)) = True := oT
               obtain ⟨ad204, A204_3, c204_3, A204_4, c204_4, A204_5, c204_5, e204, hx204_0, hx204_1, hx204_2, hx204_3, hx204_4, hx204_5, hl204_3, hi204_3, hl204_4, hi204_4, hl204_5, hi204_5⟩ := at_T51 HR0_0.out x20_2 oa oa
               cases e204
               replace hx204_0 := cB HB hx204_0
               replace hx204_1 := cB HB hx204_1
               replace hx204_2 := cB HB hx204_2
               replace hx204_3 := cB HB hx204_3
               replace hx204_4 := cB HB hx204_4
               replace hx204_5 := cB HB hx204_5
               have HR204_3 := Aside0.mk hi204_3
               have HC204_3 := Aside0.mk hl204_3
               clear hi204_3 hl204_3
               have HR204_4 := Aside0.mk hi204_4
               have HC204_4 := Aside0.mk hl204_4
               clear hi204_4 hl204_4
               have HR204_5 := Aside0.mk hi204_5
               have HC204_5 := Aside0.mk hl204_5
               clear hi204_5 hl204_5
               try go_wp2_with (first | ((with_reducible refine gate_dst (N := 4) rfl ?_); refine bx_ 4 #[.int .i64 0, .int .i64 0, .int .i64 0, .slice none 0 0, .slice none 0 0, .slice none 0 0] 51 ?_; intro gb205 hg w33 hbox hb; have BK205 := Aside0.mk (hbox); have GW205 := gs_ hg; have NB202_205 := nl_ hg BK202; have NB205_202 := nr_ hg BK202; replace BK202 := kb_ BK202 hb; replace HB := Aside0.mk (below_step oB hb); clear hb hbox hg; have hnb34 := NB205_202.out; have hnc34 := NB202_205.out; obtain ⟨⟨_, _, _, _, _, _⟩, _, _, _, _, _, _⟩ := z6 BK205))
               generalize hW_ : ((((((w33.setCell ⟨gb205, 0, none⟩ (.int .i64 ((rd_T51 l0_0 x20_2).f0))).setCell ⟨gb205, 1, none⟩ (.int .i64 ((rd_T51 l0_0 x20_2).f1))).setCell ⟨gb205, 2, none⟩ (.int .i64 ((rd_T51 l0_0 x20_2).f2))).setCell ⟨gb205, 3, none⟩ (.slice A204_3 ((rd_T51 l0_0 x20_2).f3).length c204_3)).setCell ⟨gb205, 4, none⟩ (.slice A204_4 ((rd_T51 l0_0 x20_2).f4).length c204_4)).setCell ⟨gb205, 5, none⟩ (.slice A204_5 ((rd_T51 l0_0 x20_2).f5).length c204_5)) = w36
               replace BK202 := kw_ hW_ BK202
               replace BK205 := kv_ #[.int .i64 ((rd_T51 l0_0 x20_2).f0), .int .i64 ((rd_T51 l0_0 x20_2).f1), .int .i64 ((rd_T51 l0_0 x20_2).f2), .slice A204_3 ((rd_T51 l0_0 x20_2).f3).length c204_3, .slice A204_4 ((rd_T51 l0_0 x20_2).f4).length c204_4, .slice A204_5 ((rd_T51 l0_0 x20_2).f5).length c204_5] hW_ BK205
               replace HB := hw_ hW_ HB
               clear hW_
               replace BK202 := Aside0.mk (blk_drew BK202.out)
               replace BK205 := Aside0.mk (blk_drew BK205.out)
               replace HB := Aside0.mk (below_drew1 HB.out)
               have p207 : (0 ≤ ((ji23) : Int)) = True := oT
               have q207 : ((ji23) < (l0_0.length : Int)) = True := oT
               obtain ⟨ad207, A207_3, c207_3, A207_4, c207_4, A207_5, c207_5, e207, hx207_0, hx207_1, hx207_2, hx207_3, hx207_4, hx207_5, hl207_3, hi207_3, hl207_4, hi207_4, hl207_5, hi207_5⟩ := at_T51 HR0_0.out (ji23) oa oa
               have hw207_5 := hx207_5
               have hw207_4 := hx207_4
               have hw207_3 := hx207_3
               have hw207_2 := hx207_2
               have hw207_1 := hx207_1
               have hw207_0 := hx207_0
               obtain rfl : ad204 = ad207 := (by injection e207)
               replace hx207_0 := cB HB hx207_0
               replace hx207_1 := cB HB hx207_1
               replace hx207_2 := cB HB hx207_2
               replace hx207_3 := cB HB hx207_3
               replace hx207_4 := cB HB hx207_4
               replace hx207_5 := cB HB hx207_5
               have HR207_3 := Aside0.mk hi207_3
               have HC207_3 := Aside0.mk hl207_3
               clear hi207_3 hl207_3
               have HR207_4 := Aside0.mk hi207_4
               have HC207_4 := Aside0.mk hl207_4
               clear hi207_4 hl207_4
               have HR207_5 := Aside0.mk hi207_5
               have HC207_5 := Aside0.mk hl207_5
               clear hi207_5 hl207_5
               refine st_ 26 (fun w' => w'.cell? ⟨gb205, 0, none⟩ = some (.int .i64 ((rd_T51 l0_0 x20_2).f0)) ∧ w'.cell? ⟨gb205, 1, none⟩ = some (.int .i64 ((rd_T51 l0_0 x20_2).f1)) ∧ w'.cell? ⟨gb205, 2, none⟩ = some (.int .i64 ((rd_T51 l0_0 x20_2).f2)) ∧ w'.cell? ⟨gb205, 3, none⟩ = some (.slice A204_3 ((rd_T51 l0_0 x20_2).f3).length c204_3) ∧ w'.cell? ⟨gb205, 4, none⟩ = some (.slice A204_4 ((rd_T51 l0_0 x20_2).f4).length c204_4) ∧ w'.cell? ⟨gb205, 5, none⟩ = some (.slice A204_5 ((rd_T51 l0_0 x20_2).f5).length c204_5) ∧ w'.cell? ⟨gb202, 0, none⟩ = some (.slice (some ad204) l0_0.length c0_0) ∧ w'.cell? ⟨gb202, 1, none⟩ = some (.int .i64 a0_1) ∧ w'.cell? (ad204.add (((ji23)).toNat * 6)) = some (.int .i64 ((rd_T51 l0_0 (ji23)).f0)) ∧ w'.cell? ⟨(ad204.add (((ji23)).toNat * 6)).block, (ad204.add (((ji23)).toNat * 6)).off + 1, none⟩ = some (.int .i64 ((rd_T51 l0_0 (ji23)).f1)) ∧ w'.cell? ⟨(ad204.add (((ji23)).toNat * 6)).block, (ad204.add (((ji23)).toNat * 6)).off + 2, none⟩ = some (.int .i64 ((rd_T51 l0_0 (ji23)).f2)) ∧ w'.cell? ⟨(ad204.add (((ji23)).toNat * 6)).block, (ad204.add (((ji23)).toNat * 6)).off + 3, none⟩ = some (.slice A207_3 ((rd_T51 l0_0 (ji23)).f3).length c207_3) ∧ w'.cell? ⟨(ad204.add (((ji23)).toNat * 6)).block, (ad204.add (((ji23)).toNat * 6)).off + 4, none⟩ = some (.slice A207_4 ((rd_T51 l0_0 (ji23)).f4).length c207_4) ∧ w'.cell? ⟨(ad204.add (((ji23)).toNat * 6)).block, (ad204.add (((ji23)).toNat * 6)).off + 5, none⟩ = some (.slice A207_5 ((rd_T51 l0_0 (ji23)).f5).length c207_5)) impl_TabOk.tab6 impl_TabOk.bits6 oH (fun hHeld HT_ HW_ => ?_)
               generalize w36.drew = w37 at BK202 BK205 HB HR207_3 HR207_4 HR207_5 hx207_0 hx207_1 hx207_2 hx207_3 hx207_4 hx207_5 hHeld ⊢
               refine ta_ 0 25 HT_ HW_ hHeld ?_
               refine on_ 1 26 HT_ (fun K hK => ?_)
               refine gr_ 26 Tryz.func66 (impl_InodeOk.calls k2 ((rd_T51 l0_0 x20_2).f0) ((rd_T51 l0_0 x20_2).f1) ((rd_T51 l0_0 x20_2).f2) _ _ ((rd_T51 l0_0 x20_2).f3) _ _ ((rd_T51 l0_0 x20_2).f4) _ _ ((rd_T51 l0_0 x20_2).f5) true _ (kC HR204_3) HC204_3.out (kC HR204_4) HC204_4.out (kC HR204_5) HC204_5.out A13.out) ?_
               rintro e w38 ⟨rfl, hb⟩
               refine ⟨_, rfl, ?_⟩
               replace BK202 := kb_ BK202 hb
               replace BK205 := kb_ BK205 hb
               replace HB := Aside0.mk (below_step oB hb)
               refine hk_ hK 26 oH (fun hHeld => ?_)
               clear hK K
               refine pu_ 2 27 HT_ ?_
               refine pu_ 3 28 HT_ ?_
               refine pu_ 4 29 HT_ ?_
               refine pu_ 6 31 HT_ ?_
               refine ta_ 5 30 HT_ HW_ hHeld ?_
               refine ta_ 7 32 HT_ HW_ hHeld ?_
               refine pu_ 8 33 HT_ ?_
               refine pu_ 9 34 HT_ ?_
               refine pu_ 10 35 HT_ ?_
               refine pu_ 11 36 HT_ ?_
               refine pu_ 12 37 HT_ ?_
               refine pu_ 13 38 HT_ ?_
               refine pu_ 14 39 HT_ ?_
               refine pu_ 16 41 HT_ ?_
               refine pu_ 17 42 HT_ ?_
               refine pu_ 21 46 HT_ ?_
               refine ta_ 15 40 HT_ HW_ hHeld ?_
               refine pu_ 18 43 HT_ ?_
               refine pu_ 19 44 HT_ ?_
               refine ta_ 20 45 HT_ HW_ hHeld ?_
               refine ta_ 22 47 HT_ HW_ hHeld ?_
               refine pu_ 23 48 HT_ ?_
               refine pu_ 24 49 HT_ ?_
               refine pu_ 25 50 HT_ ?_
               refine dn_ HT_ ?_
               try go_wp2
               go_roundg k2
               case measure => have := HJ1.out; have := HK2.out; omega
               case rel => exact ⟨(wrap64 (x20_2 + 1)), oS, H', ⟨by have := HJ1.out; have := HK2.out; omega⟩, ⟨oF BK202⟩, ⟨oB⟩⟩
             ·cases H
            ·cases H
           ·have H' := Aside0.mk H
            clear H
            have p204 : (0 ≤ (x20_2 : Int)) = True := oT
            have q204 : (x20_2 < (l0_0.length : Int)) = True := oT
            obtain ⟨ad204, A204_3, c204_3, A204_4, c204_4, A204_5, c204_5, e204, hx204_0, hx204_1, hx204_2, hx204_3, hx204_4, hx204_5, hl204_3, hi204_3, hl204_4, hi204_4, hl204_5, hi204_5⟩ := at_T51 HR0_0.out x20_2 oa oa
            cases e204
            replace hx204_0 := cB HB hx204_0
            replace hx204_1 := cB HB hx204_1
            replace hx204_2 := cB HB hx204_2
            replace hx204_3 := cB HB hx204_3
            replace hx204_4 := cB HB hx204_4
            replace hx204_5 := cB HB hx204_5
            have HR204_3 := Aside0.mk hi204_3
            have HC204_3 := Aside0.mk hl204_3
            clear hi204_3 hl204_3
            have HR204_4 := Aside0.mk hi204_4
            have HC204_4 := Aside0.mk hl204_4
            clear hi204_4 hl204_4
            have HR204_5 := Aside0.mk hi204_5
            have HC204_5 := Aside0.mk hl204_5
            clear hi204_5 hl204_5
            try go_wp2_with (first | ((with_reducible refine gate_dst (N := 4) rfl ?_); refine bx_ 4 #[.int .i64 0, .int .i64 0, .int .i64 0, .slice none 0 0, .slice none 0 0, .slice none 0 0] 51 ?_; intro gb205 hg w39 hbox hb; have BK205 := Aside0.mk (hbox); have GW205 := gs_ hg; have NB202_205 := nl_ hg BK202; have NB205_202 := nr_ hg BK202; replace BK202 := kb_ BK202 hb; replace HB := Aside0.mk (below_step oB hb); clear hb hbox hg; have hnb40 := NB205_202.out; have hnc40 := NB202_205.out; obtain ⟨⟨_, _, _, _, _, _⟩, _, _, _, _, _, _⟩ := z6 BK205))
            generalize hW_ : ((((((w39.setCell ⟨gb205, 0, none⟩ (.int .i64 ((rd_T51 l0_0 x20_2).f0))).setCell ⟨gb205, 1, none⟩ (.int .i64 ((rd_T51 l0_0 x20_2).f1))).setCell ⟨gb205, 2, none⟩ (.int .i64 ((rd_T51 l0_0 x20_2).f2))).setCell ⟨gb205, 3, none⟩ (.slice A204_3 ((rd_T51 l0_0 x20_2).f3).length c204_3)).setCell ⟨gb205, 4, none⟩ (.slice A204_4 ((rd_T51 l0_0 x20_2).f4).length c204_4)).setCell ⟨gb205, 5, none⟩ (.slice A204_5 ((rd_T51 l0_0 x20_2).f5).length c204_5)) = w42
            replace BK202 := kw_ hW_ BK202
            replace BK205 := kv_ #[.int .i64 ((rd_T51 l0_0 x20_2).f0), .int .i64 ((rd_T51 l0_0 x20_2).f1), .int .i64 ((rd_T51 l0_0 x20_2).f2), .slice A204_3 ((rd_T51 l0_0 x20_2).f3).length c204_3, .slice A204_4 ((rd_T51 l0_0 x20_2).f4).length c204_4, .slice A204_5 ((rd_T51 l0_0 x20_2).f5).length c204_5] hW_ BK205
            replace HB := hw_ hW_ HB
            clear hW_
            replace BK202 := Aside0.mk (blk_drew BK202.out)
            replace BK205 := Aside0.mk (blk_drew BK205.out)
            replace HB := Aside0.mk (below_drew1 HB.out)
            refine st_ 26 (fun w' => w'.cell? ⟨gb205, 0, none⟩ = some (.int .i64 ((rd_T51 l0_0 x20_2).f0)) ∧ w'.cell? ⟨gb205, 1, none⟩ = some (.int .i64 ((rd_T51 l0_0 x20_2).f1)) ∧ w'.cell? ⟨gb205, 2, none⟩ = some (.int .i64 ((rd_T51 l0_0 x20_2).f2)) ∧ w'.cell? ⟨gb205, 3, none⟩ = some (.slice A204_3 ((rd_T51 l0_0 x20_2).f3).length c204_3) ∧ w'.cell? ⟨gb205, 4, none⟩ = some (.slice A204_4 ((rd_T51 l0_0 x20_2).f4).length c204_4) ∧ w'.cell? ⟨gb205, 5, none⟩ = some (.slice A204_5 ((rd_T51 l0_0 x20_2).f5).length c204_5) ∧ w'.cell? ⟨gb202, 0, none⟩ = some (.slice (some ad204) l0_0.length c0_0) ∧ w'.cell? ⟨gb202, 1, none⟩ = some (.int .i64 a0_1)) impl_TabOk.tab6 impl_TabOk.bits6 oH (fun hHeld HT_ HW_ => ?_)
            generalize w42.drew = w43 at BK202 BK205 HB hHeld ⊢
            refine ta_ 0 25 HT_ HW_ hHeld ?_
            refine on_ 1 26 HT_ (fun K hK => ?_)
            refine gr_ 26 Tryz.func66 (impl_InodeOk.calls k2 ((rd_T51 l0_0 x20_2).f0) ((rd_T51 l0_0 x20_2).f1) ((rd_T51 l0_0 x20_2).f2) _ _ ((rd_T51 l0_0 x20_2).f3) _ _ ((rd_T51 l0_0 x20_2).f4) _ _ ((rd_T51 l0_0 x20_2).f5) true _ (kC HR204_3) HC204_3.out (kC HR204_4) HC204_4.out (kC HR204_5) HC204_5.out A13.out) ?_
            rintro e w44 ⟨rfl, hb⟩
            refine ⟨_, rfl, ?_⟩
            replace BK202 := kb_ BK202 hb
            replace BK205 := kb_ BK205 hb
            replace HB := Aside0.mk (below_step oB hb)
            refine hk_ hK 26 oH (fun hHeld => ?_)
            clear hK K
            refine pu_ 2 27 HT_ ?_
            refine pu_ 3 28 HT_ ?_
            refine pu_ 4 29 HT_ ?_
            refine pu_ 6 31 HT_ ?_
            refine ta_ 5 30 HT_ HW_ hHeld ?_
            refine ta_ 7 32 HT_ HW_ hHeld ?_
            refine pu_ 8 33 HT_ ?_
            refine pu_ 9 34 HT_ ?_
            refine pu_ 10 35 HT_ ?_
            refine pu_ 11 36 HT_ ?_
            refine pu_ 12 37 HT_ ?_
            refine pu_ 13 38 HT_ ?_
            refine pn_ 14 39 HT_ ?_
            refine pn_ 15 40 HT_ ?_
            refine pn_ 16 41 HT_ ?_
            refine pn_ 17 42 HT_ ?_
            refine pn_ 18 43 HT_ ?_
            refine pn_ 19 44 HT_ ?_
            refine pn_ 20 45 HT_ ?_
            refine pn_ 21 46 HT_ ?_
            refine pn_ 22 47 HT_ ?_
            refine pn_ 23 48 HT_ ?_
            refine pu_ 24 49 HT_ ?_
            refine pu_ 25 50 HT_ ?_
            refine dn_ HT_ ?_
            try go_wp2
            go_roundg k2
            case measure => have := HJ1.out; have := HK2.out; omega
            case rel => exact ⟨(wrap64 (x20_2 + 1)), oS, H', ⟨by have := HJ1.out; have := HK2.out; omega⟩, ⟨oF BK202⟩, ⟨oB⟩⟩
         ·obtain rfl := Option.some.inj H
          have p204 : (0 ≤ (x20_2 : Int)) = True := oT
          have q204 : (x20_2 < (l0_0.length : Int)) = True := oT
          obtain ⟨ad204, A204_3, c204_3, A204_4, c204_4, A204_5, c204_5, e204, hx204_0, hx204_1, hx204_2, hx204_3, hx204_4, hx204_5, hl204_3, hi204_3, hl204_4, hi204_4, hl204_5, hi204_5⟩ := at_T51 HR0_0.out x20_2 oa oa
          cases e204
          replace hx204_0 := cB HB hx204_0
          replace hx204_1 := cB HB hx204_1
          replace hx204_2 := cB HB hx204_2
          replace hx204_3 := cB HB hx204_3
          replace hx204_4 := cB HB hx204_4
          replace hx204_5 := cB HB hx204_5
          have HR204_3 := Aside0.mk hi204_3
          have HC204_3 := Aside0.mk hl204_3
          clear hi204_3 hl204_3
          have HR204_4 := Aside0.mk hi204_4
          have HC204_4 := Aside0.mk hl204_4
          clear hi204_4 hl204_4
          have HR204_5 := Aside0.mk hi204_5
          have HC204_5 := Aside0.mk hl204_5
          clear hi204_5 hl204_5
          try go_wp2_with (first | ((with_reducible refine gate_dst (N := 4) rfl ?_); refine bx_ 4 #[.int .i64 0, .int .i64 0, .int .i64 0, .slice none 0 0, .slice none 0 0, .slice none 0 0] 51 ?_; intro gb205 hg w45 hbox hb; have BK205 := Aside0.mk (hbox); have GW205 := gs_ hg; have NB202_205 := nl_ hg BK202; have NB205_202 := nr_ hg BK202; replace BK202 := kb_ BK202 hb; replace HB := Aside0.mk (below_step oB hb); clear hb hbox hg; have hnb46 := NB205_202.out; have hnc46 := NB202_205.out; obtain ⟨⟨_, _, _, _, _, _⟩, _, _, _, _, _, _⟩ := z6 BK205))
          generalize hW_ : ((((((w45.setCell ⟨gb205, 0, none⟩ (.int .i64 ((rd_T51 l0_0 x20_2).f0))).setCell ⟨gb205, 1, none⟩ (.int .i64 ((rd_T51 l0_0 x20_2).f1))).setCell ⟨gb205, 2, none⟩ (.int .i64 ((rd_T51 l0_0 x20_2).f2))).setCell ⟨gb205, 3, none⟩ (.slice A204_3 ((rd_T51 l0_0 x20_2).f3).length c204_3)).setCell ⟨gb205, 4, none⟩ (.slice A204_4 ((rd_T51 l0_0 x20_2).f4).length c204_4)).setCell ⟨gb205, 5, none⟩ (.slice A204_5 ((rd_T51 l0_0 x20_2).f5).length c204_5)) = w48
          replace BK202 := kw_ hW_ BK202
          replace BK205 := kv_ #[.int .i64 ((rd_T51 l0_0 x20_2).f0), .int .i64 ((rd_T51 l0_0 x20_2).f1), .int .i64 ((rd_T51 l0_0 x20_2).f2), .slice A204_3 ((rd_T51 l0_0 x20_2).f3).length c204_3, .slice A204_4 ((rd_T51 l0_0 x20_2).f4).length c204_4, .slice A204_5 ((rd_T51 l0_0 x20_2).f5).length c204_5] hW_ BK205
          replace HB := hw_ hW_ HB
          clear hW_
          replace BK202 := Aside0.mk (blk_drew BK202.out)
          replace BK205 := Aside0.mk (blk_drew BK205.out)
          replace HB := Aside0.mk (below_drew1 HB.out)
          refine st_ 26 (fun w' => w'.cell? ⟨gb205, 0, none⟩ = some (.int .i64 ((rd_T51 l0_0 x20_2).f0)) ∧ w'.cell? ⟨gb205, 1, none⟩ = some (.int .i64 ((rd_T51 l0_0 x20_2).f1)) ∧ w'.cell? ⟨gb205, 2, none⟩ = some (.int .i64 ((rd_T51 l0_0 x20_2).f2)) ∧ w'.cell? ⟨gb205, 3, none⟩ = some (.slice A204_3 ((rd_T51 l0_0 x20_2).f3).length c204_3) ∧ w'.cell? ⟨gb205, 4, none⟩ = some (.slice A204_4 ((rd_T51 l0_0 x20_2).f4).length c204_4) ∧ w'.cell? ⟨gb205, 5, none⟩ = some (.slice A204_5 ((rd_T51 l0_0 x20_2).f5).length c204_5)) impl_TabOk.tab6 impl_TabOk.bits6 oH (fun hHeld HT_ HW_ => ?_)
          generalize w48.drew = w49 at BK202 BK205 HB hHeld ⊢
          refine ta_ 0 25 HT_ HW_ hHeld ?_
          refine on_ 1 26 HT_ (fun K hK => ?_)
          refine gr_ 26 Tryz.func66 (impl_InodeOk.calls k2 ((rd_T51 l0_0 x20_2).f0) ((rd_T51 l0_0 x20_2).f1) ((rd_T51 l0_0 x20_2).f2) _ _ ((rd_T51 l0_0 x20_2).f3) _ _ ((rd_T51 l0_0 x20_2).f4) _ _ ((rd_T51 l0_0 x20_2).f5) false _ (kC HR204_3) HC204_3.out (kC HR204_4) HC204_4.out (kC HR204_5) HC204_5.out A13.out) ?_
          rintro e w50 ⟨rfl, hb⟩
          refine ⟨_, rfl, ?_⟩
          replace BK202 := kb_ BK202 hb
          replace BK205 := kb_ BK205 hb
          replace HB := Aside0.mk (below_step oB hb)
          refine hk_ hK 26 oH (fun hHeld => ?_)
          clear hK K
          refine pu_ 2 27 HT_ ?_
          refine pu_ 3 28 HT_ ?_
          refine pn_ 4 29 HT_ ?_
          refine pn_ 5 30 HT_ ?_
          refine pn_ 6 31 HT_ ?_
          refine pn_ 7 32 HT_ ?_
          refine pn_ 8 33 HT_ ?_
          refine pu_ 9 34 HT_ ?_
          refine pu_ 10 35 HT_ ?_
          refine pn_ 11 36 HT_ ?_
          refine pn_ 12 37 HT_ ?_
          refine pn_ 13 38 HT_ ?_
          refine pn_ 14 39 HT_ ?_
          refine pn_ 15 40 HT_ ?_
          refine pn_ 16 41 HT_ ?_
          refine pn_ 17 42 HT_ ?_
          refine pn_ 18 43 HT_ ?_
          refine pn_ 19 44 HT_ ?_
          refine pn_ 20 45 HT_ ?_
          refine pn_ 21 46 HT_ ?_
          refine pn_ 22 47 HT_ ?_
          refine pn_ 23 48 HT_ ?_
          refine pn_ 24 49 HT_ ?_
          refine pu_ 25 50 HT_ ?_
          refine dn_ HT_ ?_
          try go_wp2
          go_ret
          exact ⟨oE, oB⟩
        ·cases H
       ·cases H
      ·replace H := bA H
       obtain ⟨⟨t208, t209, t210, t211, t214, t217, t220⟩, A51, H⟩ := H
       try dsimp only at H
       replace H := itB H
       rcases H with ⟨rfl, H⟩ | ⟨rfl, H⟩
       ·obtain rfl := Option.some.inj H
        obtain ⟨⟨_, _⟩, _, _⟩ := z2 BK202
        go_wp2_with (first | ((with_reducible refine gate_callee (f := 42) rfl ?_); refine gl_ 54 Tryz.func42 (impl_InodeAt.calls k2 _ _ l0_0 a0_1 1 t208 t209 t210 t211 t214 t217 true _ (kC HR0_0) HC0_0.out A51.out) ?_; rintro e w54 ⟨v212, v215, v218, rfl, ho0, ho1, ho2, hb⟩; refine ⟨_, rfl, ?_⟩; have HO213 := Aside0.mk (Kd.R_lower ho0 (below_size oB)); have HO216 := Aside0.mk (Kd.R_lower ho1 (below_size oB)); have HO219 := Aside0.mk (Kd.R_lower ho2 (below_size oB)); replace BK202 := kb_ BK202 hb; replace HB := Aside0.mk (below_step oB hb); (try clear ho1); (try clear ho2)) | ((with_reducible refine gate_dst (N := 5) rfl ?_); refine bx_ 5 #[.int .i64 0, .int .i64 0, .int .i64 0, .slice none 0 0, .slice none 0 0, .slice none 0 0] 51 ?_; intro gb221 hg w55 hbox hb; have BK221 := Aside0.mk (hbox); have GW221 := gs_ hg; have NB202_221 := nl_ hg BK202; have NB221_202 := nr_ hg BK202; replace HO213 := kr_ HO213 hb; replace HO216 := kr_ HO216 hb; replace HO219 := kr_ HO219 hb; replace BK202 := kb_ BK202 hb; replace HB := Aside0.mk (below_step oB hb); clear hb hbox hg; have hnb56 := NB221_202.out; have hnc56 := NB202_221.out; obtain ⟨⟨_, _, _, _, _, _⟩, _, _, _, _, _, _⟩ := z6 BK221; obtain ⟨Ao58, co58, eo58⟩ := Kd.R_slice HO213.out; subst eo58; obtain ⟨Ao59, co59, eo59⟩ := Kd.R_slice HO216.out; subst eo59; obtain ⟨Ao60, co60, eo60⟩ := Kd.R_slice HO219.out; subst eo60))
        go_ret
        exact ⟨oE, oB⟩
       ·obtain rfl := Option.some.inj H
        obtain ⟨⟨_, _⟩, _, _⟩ := z2 BK202
        go_wp2_with (first | ((with_reducible refine gate_callee (f := 42) rfl ?_); refine gl_ 54 Tryz.func42 (impl_InodeAt.calls k2 _ _ l0_0 a0_1 1 t208 t209 t210 t211 t214 t217 false _ (kC HR0_0) HC0_0.out A51.out) ?_; rintro e w62 ⟨v212, v215, v218, rfl, ho0, ho1, ho2, hb⟩; refine ⟨_, rfl, ?_⟩; have HO213 := Aside0.mk (Kd.R_lower ho0 (below_size oB)); have HO216 := Aside0.mk (Kd.R_lower ho1 (below_size oB)); have HO219 := Aside0.mk (Kd.R_lower ho2 (below_size oB)); replace BK202 := kb_ BK202 hb; replace HB := Aside0.mk (below_step oB hb); (try clear ho1); (try clear ho2)) | ((with_reducible refine gate_dst (N := 5) rfl ?_); refine bx_ 5 #[.int .i64 0, .int .i64 0, .int .i64 0, .slice none 0 0, .slice none 0 0, .slice none 0 0] 51 ?_; intro gb221 hg w63 hbox hb; have BK221 := Aside0.mk (hbox); have GW221 := gs_ hg; have NB202_221 := nl_ hg BK202; have NB221_202 := nr_ hg BK202; replace HO213 := kr_ HO213 hb; replace HO216 := kr_ HO216 hb; replace HO219 := kr_ HO219 hb; replace BK202 := kb_ BK202 hb; replace HB := Aside0.mk (below_step oB hb); clear hb hbox hg; have hnb64 := NB221_202.out; have hnc64 := NB202_221.out; obtain ⟨⟨_, _, _, _, _, _⟩, _, _, _, _, _, _⟩ := z6 BK221; obtain ⟨Ao66, co66, eo66⟩ := Kd.R_slice HO213.out; subst eo66; obtain ⟨Ao67, co67, eo67⟩ := Kd.R_slice HO216.out; subst eo67; obtain ⟨Ao68, co68, eo68⟩ := Kd.R_slice HO219.out; subst eo68))
        go_ret
        exact ⟨oE, oB⟩

end Go.Proofs.YtkcfmbggdkkfeaaGreatDoor.P
