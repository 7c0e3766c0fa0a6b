-- By this session's own program (wip/myprint.py) out of the translation; Lean checks it.
import Derived.Test.YtkcfmbggdkkfeaaGreatDoorPx0
import Derived.Test.YtkcfmbggdkkfeaaGreatDoorPx3
import Derived.Test.YtkcfmbggdkkfeaaGreatDoorPx5
import Derived.Test.YtkcfmbggdkkfeaaGreatDoorPx6
namespace Go.Proofs.YtkcfmbggdkkfeaaGreatDoor.P
open Go.RowKit Go.Proofs.YtkcfmbggdkkfeaaGreatDoorW.PrintWords Go.Proofs.YtkcfmbggdkkfeaaGreatDoorW.PrintLast Go.Proofs.YtkcfmbggdkkfeaaGreatDoorW.PrintMore
attribute [local go_sem] max2_int min2_int max_two min_two max_three min_three max_four min_four   -- for this text's walks alone
set_option linter.unusedVariables false
set_option linter.unusedSimpArgs false

/-! ### impl_TabOk: function 38 -/
mutual
def impl_TabOk.j0 : Nat → Bool → List (S51) → Int → Option (Bool)
 | 0, _, _, _ => none
 | k + 1, x16, x197000, x197001 => if x16 = true then (some false) else (impl_TabOk.l0 k x197000 (x197000.length : Int) 0 x197000 x197001)
def impl_TabOk.l0 : Nat → List (S51) → Int → Int → List (S51) → Int → Option (Bool)
 | 0, _, _, _, _, _ => none
 | k + 1, x18, x19, x20, x197000, x197001 => if x20 < x19 then (if 0 ≤ x20 then (if x20 < (x18.length : Int) then ((impl_InodeOk.f k ((rd_T51 x18 x20).f0) ((rd_T51 x18 x20).f1) ((rd_T51 x18 x20).f2) ((rd_T51 x18 x20).f3) ((rd_T51 x18 x20).f4) ((rd_T51 x18 x20).f5)).bind fun t200 => (if t200 = true then (if ((rd_T51 x18 x20).f0) ≥ x197001 then (some false) else (if x20 > 0 then (if 0 ≤ (wrap64 (x20 - 1)) then (if (wrap64 (x20 - 1)) < (x197000.length : Int) then (if ((rd_T51 x197000 (wrap64 (x20 - 1))).f0) ≥ ((rd_T51 x18 x20).f0) then (some false) else (impl_TabOk.l0 k x18 x19 (wrap64 (x20 + 1)) x197000 x197001)) else (none)) else (none)) else (impl_TabOk.l0 k x18 x19 (wrap64 (x20 + 1)) x197000 x197001))) else (some false))) else (none)) else (none)) else ((impl_InodeAt.f k x197000 x197001 1).bind fun bt202 => (if bt202.2.2.2.2.2.2 = true then (some (bt202.2.1 == 2)) else (some false)))
end
def impl_TabOk.f (k : Nat) (l0_0 : List (S51)) (a0_1 : Int) : Option (Bool) := if (l0_0.length : Int) > 30 then (impl_TabOk.j0 k true l0_0 a0_1) else ((impl_from.f a0_1 2 1000).bind fun t197 => (impl_TabOk.j0 k (!t197) l0_0 a0_1))
def impl_TabOk.T6 : Bool × List (List Nat × List Nat) := (true, [([], []), ([0], [0]), ([1], [1]), ([2, 1], [2]), ([3], [3]), ([4, 3], [3, 4]), ([3], [3]), ([6, 3], [3, 6]), ([5, 7, 3], [3, 5, 7]), ([3, 8], [3, 8]), ([9, 3], [9]), ([10], [10]), ([11, 10], [10, 11]), ([12, 10, 10], [10, 12]), ([13], [13]), ([14, 13], [13, 14]), ([13], [13]), ([16, 13], [13, 16]), ([15, 17, 13], [13, 15, 17]), ([18, 13], [13, 18]), ([19, 13], [13, 19]), ([13], [13]), ([21, 13], [13, 21]), ([20, 22, 13], [13, 20, 22]), ([13, 23, 10], [10, 13, 23]), ([10, 24], [10, 24])])
def impl_TabOk.B6 : List Nat := [0, 1, 3, 7, 15, 31, 15, 79, 255, 511, 1023, 2047, 4095, 8191, 16383, 32767, 16383, 81919, 262143, 524287, 1048575, 16383, 2113535, 8388607, 16777215, 33554431]
theorem impl_TabOk.tab6 : rtab .any (opsOf Tryz.f38 6) = impl_TabOk.T6 := by kernel_rfl
theorem impl_TabOk.bits6 : waitsOk impl_TabOk.T6.2 impl_TabOk.B6 = true := by kernel_rfl
set_option maxHeartbeats 8000000 in
set_option maxRecDepth 100000 in
theorem impl_TabOk.calls (k : Nat) (A0_0 : Option Addr) (c0_0 : Nat) (l0_0 : List (S51)) (a0_1 : Int) (r : Bool) (w : World) (hr0_0 : Kd.C k51 w A0_0 l0_0.length l0_0) (hc0_0 : l0_0.length ≤ c0_0) (h : impl_TabOk.f k l0_0 a0_1 = some r) :
  Calls Tryz.prog 38 #[.agg #[.slice A0_0 l0_0.length c0_0, .int .i64 a0_1]] w fun e w' => e = .returned (.bool r) ∧ Below w.heap.size w w' := by
 have hu26 := Tryz.underlying26
 have hu51 := Tryz.underlying51
 have HR0_0 := Aside0.mk hr0_0
 have HC0_0 := Aside0.mk hc0_0
 clear hr0_0 hc0_0
 have HB := Aside0.mk (Below.refl w.heap.size w)
 unfold impl_TabOk.f at h
 have H := h
 clear h
 have HC2 := Aside0.mk H
 clear H
 go_enter Tryz.func38, Tryz.ntmps38
 go_upto_region 1 with (first | ((with_reducible refine gate_dst (N := 1) rfl ?_); refine bx_ 1 #[.slice A0_0 l0_0.length c0_0, .int .i64 a0_1] 26 ?_; intro gb196 hg w3 hbox hb; have BK196 := Aside0.mk (hbox); have GW196 := gs_ hg; replace HB := Aside0.mk (below_step oB hb); clear hb hbox hg))
 (try simp only [Act.put, List.setIfInBounds_toArray, List.set_cons_zero, List.set_cons_succ])
 go_cut [16] (fun v16 wc => ∃ (kq : Nat) (x16_1 : Bool), v16 = .bool x16_1 ∧ Aside0 (impl_TabOk.j0 kq x16_1 l0_0 a0_1 = some r) ∧ Aside0 (kq ≤ k) ∧ Aside0 (wc.heap[gb196]? = some (.cells #[(.slice A0_0 l0_0.length c0_0), .int .i64 a0_1] 26 (0, 0))) ∧ Aside0 (Below w.heap.size w wc))
 case first =>
  have H := HC2.out
  clear HC2
  by_cases c4 : (l0_0.length : Int) > 30
  ·rw [if_pos c4] at H
   have c4b0 : decide (30 < (l0_0.length : Int)) = true := decide_eq_true c4
   have c4b1 : decide (30 < l0_0.length) = true := decide_eq_true (by omega)
   clear c4
   (first | rw [c4b0] | rw [c4b2] | (simp only [i64_w, i32_w]; rw [c4b0]) | skip)
   have H' := Aside0.mk H
   clear H
   obtain ⟨⟨_, _⟩, _, _⟩ := z2 BK196
   go_wp2
   go_meet
   case rel => exact ⟨_, (true), oS, H', ⟨by first | omega | exact Nat.le_refl _⟩, ⟨oF BK196⟩, ⟨oB⟩⟩
  ·rw [if_neg c4] at H
   have c4b0 : decide (30 < (l0_0.length : Int)) = false := decide_eq_false c4
   have c4b1 : decide (30 < l0_0.length) = false := decide_eq_false (by omega)
   clear c4
   (first | rw [c4b0] | rw [c4b2] | (simp only [i64_w, i32_w]; rw [c4b0]) | skip)
   replace H := bA H
   obtain ⟨t197, A6, H⟩ := H
   try dsimp only at H
   have H' := Aside0.mk H
   clear H
   obtain ⟨⟨_, _⟩, _, _⟩ := z2 BK196
   go_wp2_with (first | (go_at_call 47; (with_reducible refine (impl_from.calls a0_1 2 1000 t197 _ A6.out).mono ?_); rintro e w' ⟨rfl, ⟨nd, rfl⟩⟩))
   go_meet
   case rel => exact ⟨_, (!t197), oS, H', ⟨by first | omega | exact Nat.le_refl _⟩, ⟨oF BK196⟩, ⟨oB⟩⟩
 case rest =>
  clear HC2
  obtain ⟨kq, x16_1, rfl, HA, HJ1, BK196, HB⟩ := hcut
  cases kq with
  | zero => exact absurd HA.out (by simp [impl_TabOk.j0])
  | succ kj1 =>
   have H := HA.out
   clear HA
   simp only [impl_TabOk.j0] at H
   replace H := itB H
   rcases H with ⟨rfl, H⟩ | ⟨rfl, H⟩
   ·obtain rfl := Option.some.inj H
    go_wp2
    go_ret
    exact ⟨oE, oB⟩
   ·have H' := Aside0.mk H
    clear H
    obtain ⟨⟨_, _⟩, _, _⟩ := z2 BK196
    go_wp2
    go_loopg [20] kj1 (fun kq v20 w' => ∃ (x20_2 : Int), v20 = .int .i64 x20_2 ∧ Aside0 (impl_TabOk.l0 kq l0_0 (l0_0.length : Int) x20_2 l0_0 a0_1 = some r) ∧ Aside0 (kq ≤ kj1) ∧ Aside0 (w'.heap[gb196]? = some (.cells #[(.slice A0_0 l0_0.length c0_0), .int .i64 a0_1] 26 (0, 0))) ∧ Aside0 (Below w.heap.size w w'))
    case atStart => exact ⟨(0), oS, H', ⟨Nat.le_refl _⟩, ⟨oF BK196⟩, ⟨oB⟩⟩
    case round =>
     clear H'
     obtain ⟨x20_2, rfl, HA, HK2, BK196, HB⟩ := hrel
     cases gk with
     | zero => exact absurd HA.out (by simp [impl_TabOk.l0])
     | succ k2 =>
      have H := HA.out
      clear HA
      simp only [impl_TabOk.l0] at H
      replace H := itD H
      rcases H with ⟨c10b0, H⟩ | ⟨c10b0, H⟩
      ·replace H := itD H
       rcases H with ⟨c11b0, H⟩ | ⟨c11b0, H⟩
       ·replace H := itD H
        rcases H with ⟨c12b0, H⟩ | ⟨c12b0, H⟩
        ·replace H := bA H
         obtain ⟨t200, A13, H⟩ := H
         try dsimp only at H
         replace H := itB H
         rcases H with ⟨rfl, H⟩ | ⟨rfl, H⟩
         ·replace H := itH H
          rcases H with ⟨c15b0, H⟩ | ⟨c15b0, H⟩
          ·obtain rfl := Option.some.inj H
           have p198 : (0 ≤ (x20_2 : Int)) = True := oT
           have q198 : (x20_2 < (l0_0.length : Int)) = True := oT
           obtain ⟨ad198, A198_3, c198_3, A198_4, c198_4, A198_5, c198_5, e198, hx198_0, hx198_1, hx198_2, hx198_3, hx198_4, hx198_5, hl198_3, hi198_3, hl198_4, hi198_4, hl198_5, hi198_5⟩ := at_T51 HR0_0.out x20_2 oa oa
           cases e198
           replace hx198_0 := cB HB hx198_0
           replace hx198_1 := cB HB hx198_1
           replace hx198_2 := cB HB hx198_2
           replace hx198_3 := cB HB hx198_3
           replace hx198_4 := cB HB hx198_4
           replace hx198_5 := cB HB hx198_5
           have HR198_3 := Aside0.mk hi198_3
           have HC198_3 := Aside0.mk hl198_3
           clear hi198_3 hl198_3
           have HR198_4 := Aside0.mk hi198_4
           have HC198_4 := Aside0.mk hl198_4
           clear hi198_4 hl198_4
           have HR198_5 := Aside0.mk hi198_5
           have HC198_5 := Aside0.mk hl198_5
           clear hi198_5 hl198_5
           try go_wp2_with (first | ((with_reducible refine gate_dst (N := 4) rfl ?_); refine bx_ 4 #[.int .i64 0, .int .i64 0, .int .i64 0, .slice none 0 0, .slice none 0 0, .slice none 0 0] 51 ?_; intro gb199 hg w16 hbox hb; have BK199 := Aside0.mk (hbox); have GW199 := gs_ hg; have NB196_199 := nl_ hg BK196; have NB199_196 := nr_ hg BK196; replace BK196 := kb_ BK196 hb; replace HB := Aside0.mk (below_step oB hb); clear hb hbox hg; have hnb17 := NB199_196.out; have hnc17 := NB196_199.out; obtain ⟨⟨_, _, _, _, _, _⟩, _, _, _, _, _, _⟩ := z6 BK199))
           generalize hW_ : ((((((w16.setCell ⟨gb199, 0, none⟩ (.int .i64 ((rd_T51 l0_0 x20_2).f0))).setCell ⟨gb199, 1, none⟩ (.int .i64 ((rd_T51 l0_0 x20_2).f1))).setCell ⟨gb199, 2, none⟩ (.int .i64 ((rd_T51 l0_0 x20_2).f2))).setCell ⟨gb199, 3, none⟩ (.slice A198_3 ((rd_T51 l0_0 x20_2).f3).length c198_3)).setCell ⟨gb199, 4, none⟩ (.slice A198_4 ((rd_T51 l0_0 x20_2).f4).length c198_4)).setCell ⟨gb199, 5, none⟩ (.slice A198_5 ((rd_T51 l0_0 x20_2).f5).length c198_5)) = w19
           replace BK196 := kw_ hW_ BK196
           replace BK199 := kv_ #[.int .i64 ((rd_T51 l0_0 x20_2).f0), .int .i64 ((rd_T51 l0_0 x20_2).f1), .int .i64 ((rd_T51 l0_0 x20_2).f2), .slice A198_3 ((rd_T51 l0_0 x20_2).f3).length c198_3, .slice A198_4 ((rd_T51 l0_0 x20_2).f4).length c198_4, .slice A198_5 ((rd_T51 l0_0 x20_2).f5).length c198_5] hW_ BK199
           replace HB := hw_ hW_ HB
           clear hW_
           replace BK196 := Aside0.mk (blk_drew BK196.out)
           replace BK199 := Aside0.mk (blk_drew BK199.out)
           replace HB := Aside0.mk (below_drew1 HB.out)
           refine st_ 26 (fun w' => w'.cell? ⟨gb199, 0, none⟩ = some (.int .i64 ((rd_T51 l0_0 x20_2).f0)) ∧ w'.cell? ⟨gb199, 1, none⟩ = some (.int .i64 ((rd_T51 l0_0 x20_2).f1)) ∧ w'.cell? ⟨gb199, 2, none⟩ = some (.int .i64 ((rd_T51 l0_0 x20_2).f2)) ∧ w'.cell? ⟨gb199, 3, none⟩ = some (.slice A198_3 ((rd_T51 l0_0 x20_2).f3).length c198_3) ∧ w'.cell? ⟨gb199, 4, none⟩ = some (.slice A198_4 ((rd_T51 l0_0 x20_2).f4).length c198_4) ∧ w'.cell? ⟨gb199, 5, none⟩ = some (.slice A198_5 ((rd_T51 l0_0 x20_2).f5).length c198_5) ∧ w'.cell? ⟨gb196, 0, none⟩ = some (.slice (some ad198) l0_0.length c0_0) ∧ w'.cell? ⟨gb196, 1, none⟩ = some (.int .i64 a0_1)) impl_TabOk.tab6 impl_TabOk.bits6 oH (fun hHeld HT_ HW_ => ?_)
           generalize w19.drew = w20 at BK196 BK199 HB hHeld ⊢
           refine ta_ 0 25 HT_ HW_ hHeld ?_
           refine on_ 1 26 HT_ (fun K hK => ?_)
           refine gr_ 26 Tryz.func66 (impl_InodeOk.calls k2 ((rd_T51 l0_0 x20_2).f0) ((rd_T51 l0_0 x20_2).f1) ((rd_T51 l0_0 x20_2).f2) _ _ ((rd_T51 l0_0 x20_2).f3) _ _ ((rd_T51 l0_0 x20_2).f4) _ _ ((rd_T51 l0_0 x20_2).f5) true _ (kC HR198_3) HC198_3.out (kC HR198_4) HC198_4.out (kC HR198_5) HC198_5.out A13.out) ?_
           rintro e w21 ⟨rfl, hb⟩
           refine ⟨_, rfl, ?_⟩
           replace BK196 := kb_ BK196 hb
           replace BK199 := kb_ BK199 hb
           replace HB := Aside0.mk (below_step oB hb)
           refine hk_ hK 26 oH (fun hHeld => ?_)
           clear hK K
           refine pu_ 2 27 HT_ ?_
           refine pu_ 3 28 HT_ ?_
           refine pu_ 4 29 HT_ ?_
           refine pu_ 6 31 HT_ ?_
           refine ta_ 5 30 HT_ HW_ hHeld ?_
           refine ta_ 7 32 HT_ HW_ hHeld ?_
           refine pu_ 8 33 HT_ ?_
           refine pu_ 9 34 HT_ ?_
           refine pu_ 10 35 HT_ ?_
           refine pn_ 11 36 HT_ ?_
           refine pn_ 12 37 HT_ ?_
           refine pn_ 13 38 HT_ ?_
           refine pn_ 14 39 HT_ ?_
           refine pn_ 15 40 HT_ ?_
           refine pn_ 16 41 HT_ ?_
           refine pn_ 17 42 HT_ ?_
           refine pn_ 18 43 HT_ ?_
           refine pn_ 19 44 HT_ ?_
           refine pn_ 20 45 HT_ ?_
           refine pn_ 21 46 HT_ ?_
           refine pn_ 22 47 HT_ ?_
           refine pn_ 23 48 HT_ ?_
           refine pn_ 24 49 HT_ ?_
           refine pu_ 25 50 HT_ ?_
           refine dn_ HT_ ?_
           try go_wp2
           go_ret
           exact ⟨oE, oB⟩
          ·replace H := itG H
           rcases H with ⟨c22b0, H⟩ | ⟨c22b0, H⟩
           ·obtain ⟨ji23, hji23⟩ : ∃ j_ : Int, (wrap64 (x20_2 - 1)) = j_ := ⟨_, rfl⟩
            replace H : (if 0 ≤ (ji23) then (if (ji23) < (l0_0.length : Int) then (if ((rd_T51 l0_0 (ji23)).f0) ≥ ((rd_T51 l0_0 x20_2).f0) then (some false) else (impl_TabOk.l0 k2 l0_0 (l0_0.length : Int) (wrap64 (x20_2 + 1)) l0_0 a0_1)) else (none)) else (none)) = some r := by first | (rw [hji23] at H; exact H) | (simp only [hji23] at H ⊢; exact H)
            (try rw [hji23] at A13)
            have hji23w : (IntKind.i64.wrap (x20_2 - 1)) = ji23 := (i64_w _).trans hji23
            replace H := itD H
            rcases H with ⟨c24b0, H⟩ | ⟨c24b0, H⟩
            ·replace H := itD H
             rcases H with ⟨c25b0, H⟩ | ⟨c25b0, H⟩
             ·replace H := itH H
              rcases H with ⟨c26b0, H⟩ | ⟨c26b0, H⟩
              ·obtain rfl := Option.some.inj H
               have p198 : (0 ≤ (x20_2 : Int)) = True := oT
               have q198 : (x20_2 < (l0_0.length : Int)) = True := oT
               obtain ⟨ad198, A198_3, c198_3, A198_4, c198_4, A198_5, c198_5, e198, hx198_0, hx198_1, hx198_2, hx198_3, hx198_4, hx198_5, hl198_3, hi198_3, hl198_4, hi198_4, hl198_5, hi198_5⟩ := at_T51 HR0_0.out x20_2 oa oa
               cases e198
               replace hx198_0 := cB HB hx198_0
               replace hx198_1 := cB HB hx198_1
               replace hx198_2 := cB HB hx198_2
               replace hx198_3 := cB HB hx198_3
               replace hx198_4 := cB HB hx198_4
               replace hx198_5 := cB HB hx198_5
               have HR198_3 := Aside0.mk hi198_3
               have HC198_3 := Aside0.mk hl198_3
               clear hi198_3 hl198_3
               have HR198_4 := Aside0.mk hi198_4
               have HC198_4 := Aside0.mk hl198_4
               clear hi198_4 hl198_4
               have HR198_5 := Aside0.mk hi198_5
               have HC198_5 := Aside0.mk hl198_5
               clear hi198_5 hl198_5
               try go_wp2_with (first | ((with_reducible refine gate_dst (N := 4) rfl ?_); refine bx_ 4 #[.int .i64 0, .int .i64 0, .int .i64 0, .slice none 0 0, .slice none 0 0, .slice none 0 0] 51 ?_; intro gb199 hg w27 hbox hb; have BK199 := Aside0.mk (hbox); have GW199 := gs_ hg; have NB196_199 := nl_ hg BK196; have NB199_196 := nr_ hg BK196; replace BK196 := kb_ BK196 hb; replace HB := Aside0.mk (below_step oB hb); clear hb hbox hg; have hnb28 := NB199_196.out; have hnc28 := NB196_199.out; obtain ⟨⟨_, _, _, _, _, _⟩, _, _, _, _, _, _⟩ := z6 BK199))
               generalize hW_ : ((((((w27.setCell ⟨gb199, 0, none⟩ (.int .i64 ((rd_T51 l0_0 x20_2).f0))).setCell ⟨gb199, 1, none⟩ (.int .i64 ((rd_T51 l0_0 x20_2).f1))).setCell ⟨gb199, 2, none⟩ (.int .i64 ((rd_T51 l0_0 x20_2).f2))).setCell ⟨gb199, 3, none⟩ (.slice A198_3 ((rd_T51 l0_0 x20_2).f3).length c198_3)).setCell ⟨gb199, 4, none⟩ (.slice A198_4 ((rd_T51 l0_0 x20_2).f4).length c198_4)).setCell ⟨gb199, 5, none⟩ (.slice A198_5 ((rd_T51 l0_0 x20_2).f5).length c198_5)) = w30
               replace BK196 := kw_ hW_ BK196
               replace BK199 := kv_ #[.int .i64 ((rd_T51 l0_0 x20_2).f0), .int .i64 ((rd_T51 l0_0 x20_2).f1), .int .i64 ((rd_T51 l0_0 x20_2).f2), .slice A198_3 ((rd_T51 l0_0 x20_2).f3).length c198_3, .slice A198_4 ((rd_T51 l0_0 x20_2).f4).length c198_4, .slice A198_5 ((rd_T51 l0_0 x20_2).f5).length c198_5] hW_ BK199
               replace HB := hw_ hW_ HB
               clear hW_
               replace BK196 := Aside0.mk (blk_drew BK196.out)
               replace BK199 := Aside0.mk (blk_drew BK199.out)
               replace HB := Aside0.mk (below_drew1 HB.out)
               have p201 : (0 ≤ ((ji23) : Int)) = True := oT
               have q201 : ((ji23) < (l0_0.length : Int)) = True := oT
               obtain ⟨ad201, A201_3, c201_3, A201_4, c201_4, A201_5, c201_5, e201, hx201_0, hx201_1, hx201_2, hx201_3, hx201_4, hx201_5, hl201_3, hi201_3, hl201_4, hi201_4, hl201_5, hi201_5⟩ := at_T51 HR0_0.out (ji23) oa oa
               have hw201_5 := hx201_5
               have hw201_4 := hx201_4
               have hw201_3 := hx201_3
               have hw201_2 := hx201_2
               have hw201_1 := hx201_1
               have hw201_0 := hx201_0
               obtain rfl : ad198 = ad201 := (by injection e201)
               replace hx201_0 := cB HB hx201_0
               replace hx201_1 := cB HB hx201_1
               replace hx201_2 := cB HB hx201_2
               replace hx201_3 := cB HB hx201_3
               replace hx201_4 := cB HB hx201_4
               replace hx201_5 := cB HB hx201_5
               have HR201_3 := Aside0.mk hi201_3
               have HC201_3 := Aside0.mk hl201_3
               clear hi201_3 hl201_3
               have HR201_4 := Aside0.mk hi201_4
               have HC201_4 := Aside0.mk hl201_4
               clear hi201_4 hl201_4
               have HR201_5 := Aside0.mk hi201_5
               have HC201_5 := Aside0.mk hl201_5
               clear hi201_5 hl201_5
               refine st_ 26 (fun w' => w'.cell? ⟨gb199, 0, none⟩ = some (.int .i64 ((rd_T51 l0_0 x20_2).f0)) ∧ w'.cell? ⟨gb199, 1, none⟩ = some (.int .i64 ((rd_T51 l0_0 x20_2).f1)) ∧ w'.cell? ⟨gb199, 2, none⟩ = some (.int .i64 ((rd_T51 l0_0 x20_2).f2)) ∧ w'.cell? ⟨gb199, 3, none⟩ = some (.slice A198_3 ((rd_T51 l0_0 x20_2).f3).length c198_3) ∧ w'.cell? ⟨gb199, 4, none⟩ = some (.slice A198_4 ((rd_T51 l0_0 x20_2).f4).length c198_4) ∧ w'.cell? ⟨gb199, 5, none⟩ = some (.slice A198_5 ((rd_T51 l0_0 x20_2).f5).length c198_5) ∧ w'.cell? ⟨gb196, 0, none⟩ = some (.slice (some ad198) l0_0.length c0_0) ∧ w'.cell? ⟨gb196, 1, none⟩ = some (.int .i64 a0_1) ∧ w'.cell? (ad198.add (((ji23)).toNat * 6)) = some (.int .i64 ((rd_T51 l0_0 (ji23)).f0)) ∧ w'.cell? ⟨(ad198.add (((ji23)).toNat * 6)).block, (ad198.add (((ji23)).toNat * 6)).off + 1, none⟩ = some (.int .i64 ((rd_T51 l0_0 (ji23)).f1)) ∧ w'.cell? ⟨(ad198.add (((ji23)).toNat * 6)).block, (ad198.add (((ji23)).toNat * 6)).off + 2, none⟩ = some (.int .i64 ((rd_T51 l0_0 (ji23)).f2)) ∧ w'.cell? ⟨(ad198.add (((ji23)).toNat * 6)).block, (ad198.add (((ji23)).toNat * 6)).off + 3, none⟩ = some (.slice A201_3 ((rd_T51 l0_0 (ji23)).f3).length c201_3) ∧ w'.cell? ⟨(ad198.add (((ji23)).toNat * 6)).block, (ad198.add (((ji23)).toNat * 6)).off + 4, none⟩ = some (.slice A201_4 ((rd_T51 l0_0 (ji23)).f4).length c201_4) ∧ w'.cell? ⟨(ad198.add (((ji23)).toNat * 6)).block, (ad198.add (((ji23)).toNat * 6)).off + 5, none⟩ = some (.slice A201_5 ((rd_T51 l0_0 (ji23)).f5).length c201_5)) impl_TabOk.tab6 impl_TabOk.bits6 oH (fun hHeld HT_ HW_ => ?_)
               generalize w30.drew = w31 at BK196 BK199 HB HR201_3 HR201_4 HR201_5 hx201_0 hx201_1 hx201_2 hx201_3 hx201_4 hx201_5 hHeld ⊢
               refine ta_ 0 25 HT_ HW_ hHeld ?_
               refine on_ 1 26 HT_ (fun K hK => ?_)
               refine gr_ 26 Tryz.func66 (impl_InodeOk.calls k2 ((rd_T51 l0_0 x20_2).f0) ((rd_T51 l0_0 x20_2).f1) ((rd_T51 l0_0 x20_2).f2) _ _ ((rd_T51 l0_0 x20_2).f3) _ _ ((rd_T51 l0_0 x20_2).f4) _ _ ((rd_T51 l0_0 x20_2).f5) true _ (kC HR198_3) HC198_3.out (kC HR198_4) HC198_4.out (kC HR198_5) HC198_5.out A13.out) ?_
               rintro e w32 ⟨rfl, hb⟩
               refine ⟨_, rfl, ?_⟩
               replace BK196 := kb_ BK196 hb
               replace BK199 := kb_ BK199 hb
               replace HB := Aside0.mk (below_step oB hb)
               refine hk_ hK 26 oH (fun hHeld => ?_)
               clear hK K
               refine pu_ 2 27 HT_ ?_
               refine pu_ 3 28 HT_ ?_
               refine pu_ 4 29 HT_ ?_
               refine pu_ 6 31 HT_ ?_
               refine ta_ 5 30 HT_ HW_ hHeld ?_
               refine ta_ 7 32 HT_ HW_ hHeld ?_
               refine pu_ 8 33 HT_ ?_
               refine pu_ 9 34 HT_ ?_
               refine pu_ 10 35 HT_ ?_
               refine pu_ 11 36 HT_ ?_
               refine pu_ 12 37 HT_ ?_
               refine pu_ 13 38 HT_ ?_
               refine pu_ 14 39 HT_ ?_
               refine pu_ 16 41 HT_ ?_
               refine pu_ 17 42 HT_ ?_
               refine pu_ 21 46 HT_ ?_
               refine ta_ 15 40 HT_ HW_ hHeld ?_
               refine pu_ 18 43 HT_ ?_
               refine pu_ 19 44 HT_ ?_
               refine ta_ 20 45 HT_ HW_ hHeld ?_
               refine ta_ 22 47 HT_ HW_ hHeld ?_
               refine pu_ 23 48 HT_ ?_
               refine pu_ 24 49 HT_ ?_
               refine pu_ 25 50 HT_ ?_
               refine dn_ HT_ ?_
               try go_wp2
               go_ret
               exact ⟨by first | rfl | (simp [errW_none, errW_some] <;> rfl) | (simp only [← hji23]; first | rfl | (simp [errW_none, errW_some] <;> rfl)) | (simp [*, errW_none, errW_some] <;> rfl), oB⟩
              ·have H' := Aside0.mk H
               clear H
               have p198 : (0 ≤ (x20_2 : Int)) = True := oT
               have q198 : (x20_2 < (l0_0.length : Int)) = True := oT
               obtain ⟨ad198, A198_3, c198_3, A198_4, c198_4, A198_5, c198_5, e198, hx198_0, hx198_1, hx198_2, hx198_3, hx198_4, hx198_5, hl198_3, hi198_3, hl198_4, hi198_4, hl198_5, hi198_5⟩ := at_T51 HR0_0.out x20_2 oa oa
               cases e198
               replace hx198_0 := cB HB hx198_0
               replace hx198_1 := cB HB hx198_1
               replace hx198_2 := cB HB hx198_2
               replace hx198_3 := cB HB hx198_3
               replace hx198_4 := cB HB hx198_4
               replace hx198_5 := cB HB hx198_5
               have HR198_3 := Aside0.mk hi198_3
               have HC198_3 := Aside0.mk hl198_3
               clear hi198_3 hl198_3
               have HR198_4 := Aside0.mk hi198_4
               have HC198_4 := Aside0.mk hl198_4
               clear hi198_4 hl198_4
               have HR198_5 := Aside0.mk hi198_5
               have HC198_5 := Aside0.mk hl198_5
               clear hi198_5 hl198_5
               try go_wp2_with (first | ((with_reducible refine gate_dst (N := 4) rfl ?_); refine bx_ 4 #[.int .i64 0, .int .i64 0, .int .i64 0, .slice none 0 0, .slice none 0 0, .slice none 0 0] 51 ?_; intro gb199 hg w33 hbox hb; have BK199 := Aside0.mk (hbox); have GW199 := gs_ hg; have NB196_199 := nl_ hg BK196; have NB199_196 := nr_ hg BK196; replace BK196 := kb_ BK196 hb; replace HB := Aside0.mk (below_step oB hb); clear hb hbox hg; have hnb34 := NB199_196.out; have hnc34 := NB196_199.out; obtain ⟨⟨_, _, _, _, _, _⟩, _, _, _, _, _, _⟩ := z6 BK199))
               generalize hW_ : ((((((w33.setCell ⟨gb199, 0, none⟩ (.int .i64 ((rd_T51 l0_0 x20_2).f0))).setCell ⟨gb199, 1, none⟩ (.int .i64 ((rd_T51 l0_0 x20_2).f1))).setCell ⟨gb199, 2, none⟩ (.int .i64 ((rd_T51 l0_0 x20_2).f2))).setCell ⟨gb199, 3, none⟩ (.slice A198_3 ((rd_T51 l0_0 x20_2).f3).length c198_3)).setCell ⟨gb199, 4, none⟩ (.slice A198_4 ((rd_T51 l0_0 x20_2).f4).length c198_4)).setCell ⟨gb199, 5, none⟩ (.slice A198_5 ((rd_T51 l0_0 x20_2).f5).length c198_5)) = w36
               replace BK196 := kw_ hW_ BK196
               replace BK199 := kv_ #[.int .i64 ((rd_T51 l0_0 x20_2).f0), .int .i64 ((rd_T51 l0_0 x20_2).f1), .int .i64 ((rd_T51 l0_0 x20_2).f2), .slice A198_3 ((rd_T51 l0_0 x20_2).f3).length c198_3, .slice A198_4 ((rd_T51 l0_0 x20_2).f4).length c198_4, .slice A198_5 ((rd_T51 l0_0 x20_2).f5).length c198_5] hW_ BK199
               replace HB := hw_ hW_ HB
               clear hW_
               replace BK196 := Aside0.mk (blk_drew BK196.out)
               replace BK199 := Aside0.mk (blk_drew BK199.out)
               replace HB := Aside0.mk (below_drew1 HB.out)
               have p201 : (0 ≤ ((ji23) : Int)) = True := oT
               have q201 : ((ji23) < (l0_0.length : Int)) = True := oT
               obtain ⟨ad201, A201_3, c201_3, A201_4, c201_4, A201_5, c201_5, e201, hx201_0, hx201_1, hx201_2, hx201_3, hx201_4, hx201_5, hl201_3, hi201_3, hl201_4, hi201_4, hl201_5, hi201_5⟩ := at_T51 HR0_0.out (ji23) oa oa
               have hw201_5 := hx201_5
               have hw201_4 := hx201_4
               have hw201_3 := hx201_3
               have hw201_2 := hx201_2
               have hw201_1 := hx201_1
               have hw201_0 := hx201_0
               obtain rfl : ad198 = ad201 := (by injection e201)
               replace hx201_0 := cB HB hx201_0
               replace hx201_1 := cB HB hx201_1
               replace hx201_2 := cB HB hx201_2
               replace hx201_3 := cB HB hx201_3
               replace hx201_4 := cB HB hx201_4
               replace hx201_5 := cB HB hx201_5
               have HR201_3 := Aside0.mk hi201_3
               have HC201_3 := Aside0.mk hl201_3
               clear hi201_3 hl201_3
               have HR201_4 := Aside0.mk hi201_4
               have HC201_4 := Aside0.mk hl201_4
               clear hi201_4 hl201_4
               have HR201_5 := Aside0.mk hi201_5
               have HC201_5 := Aside0.mk hl201_5
               clear hi201_5 hl201_5
               refine st_ 26 (fun w' => w'.cell? ⟨gb199, 0, none⟩ = some (.int .i64 ((rd_T51 l0_0 x20_2).f0)) ∧ w'.cell? ⟨gb199, 1, none⟩ = some (.int .i64 ((rd_T51 l0_0 x20_2).f1)) ∧ w'.cell? ⟨gb199, 2, none⟩ = some (.int .i64 ((rd_T51 l0_0 x20_2).f2)) ∧ w'.cell? ⟨gb199, 3, none⟩ = some (.slice A198_3 ((rd_T51 l0_0 x20_2).f3).length c198_3) ∧ w'.cell? ⟨gb199, 4, none⟩ = some (.slice A198_4 ((rd_T51 l0_0 x20_2).f4).length c198_4) ∧ w'.cell? ⟨gb199, 5, none⟩ = some (.slice A198_5 ((rd_T51 l0_0 x20_2).f5).length c198_5) ∧ w'.cell? ⟨gb196, 0, none⟩ = some (.slice (some ad198) l0_0.length c0_0) ∧ w'.cell? ⟨gb196, 1, none⟩ = some (.int .i64 a0_1) ∧ w'.cell? (ad198.add (((ji23)).toNat * 6)) = some (.int .i64 ((rd_T51 l0_0 (ji23)).f0)) ∧ w'.cell? ⟨(ad198.add (((ji23)).toNat * 6)).block, (ad198.add (((ji23)).toNat * 6)).off + 1, none⟩ = some (.int .i64 ((rd_T51 l0_0 (ji23)).f1)) ∧ w'.cell? ⟨(ad198.add (((ji23)).toNat * 6)).block, (ad198.add (((ji23)).toNat * 6)).off + 2, none⟩ = some (.int .i64 ((rd_T51 l0_0 (ji23)).f2)) ∧ w'.cell? ⟨(ad198.add (((ji23)).toNat * 6)).block, (ad198.add (((ji23)).toNat * 6)).off + 3, none⟩ = some (.slice A201_3 ((rd_T51 l0_0 (ji23)).f3).length c201_3) ∧ w'.cell? ⟨(ad198.add (((ji23)).toNat * 6)).block, (ad198.add (((ji23)).toNat * 6)).off + 4, none⟩ = some (.slice A201_4 ((rd_T51 l0_0 (ji23)).f4).length c201_4) ∧ w'.cell? ⟨(ad198.add (((ji23)).toNat * 6)).block, (ad198.add (((ji23)).toNat * 6)).off + 5, none⟩ = some (.slice A201_5 ((rd_T51 l0_0 (ji23)).f5).length c201_5)) impl_TabOk.tab6 impl_TabOk.bits6 oH (fun hHeld HT_ HW_ => ?_)
               generalize w36.drew = w37 at BK196 BK199 HB HR201_3 HR201_4 HR201_5 hx201_0 hx201_1 hx201_2 hx201_3 hx201_4 hx201_5 hHeld ⊢
               refine ta_ 0 25 HT_ HW_ hHeld ?_
               refine on_ 1 26 HT_ (fun K hK => ?_)
               refine gr_ 26 Tryz.func66 (impl_InodeOk.calls k2 ((rd_T51 l0_0 x20_2).f0) ((rd_T51 l0_0 x20_2).f1) ((rd_T51 l0_0 x20_2).f2) _ _ ((rd_T51 l0_0 x20_2).f3) _ _ ((rd_T51 l0_0 x20_2).f4) _ _ ((rd_T51 l0_0 x20_2).f5) true _ (kC HR198_3) HC198_3.out (kC HR198_4) HC198_4.out (kC HR198_5) HC198_5.out A13.out) ?_
               rintro e w38 ⟨rfl, hb⟩
               refine ⟨_, rfl, ?_⟩
               replace BK196 := kb_ BK196 hb
               replace BK199 := kb_ BK199 hb
               replace HB := Aside0.mk (below_step oB hb)
               refine hk_ hK 26 oH (fun hHeld => ?_)
               clear hK K
               refine pu_ 2 27 HT_ ?_
               refine pu_ 3 28 HT_ ?_
               refine pu_ 4 29 HT_ ?_
               refine pu_ 6 31 HT_ ?_
               refine ta_ 5 30 HT_ HW_ hHeld ?_
               refine ta_ 7 32 HT_ HW_ hHeld ?_
               refine pu_ 8 33 HT_ ?_
               refine pu_ 9 34 HT_ ?_
               refine pu_ 10 35 HT_ ?_
               refine pu_ 11 36 HT_ ?_
               refine pu_ 12 37 HT_ ?_
               refine pu_ 13 38 HT_ ?_
               refine pu_ 14 39 HT_ ?_
               refine pu_ 16 41 HT_ ?_
               refine pu_ 17 42 HT_ ?_
               refine pu_ 21 46 HT_ ?_
               refine ta_ 15 40 HT_ HW_ hHeld ?_
               refine pu_ 18 43 HT_ ?_
               refine pu_ 19 44 HT_ ?_
               refine ta_ 20 45 HT_ HW_ hHeld ?_
               refine ta_ 22 47 HT_ HW_ hHeld ?_
               refine pu_ 23 48 HT_ ?_
               refine pu_ 24 49 HT_ ?_
               refine pu_ 25 50 HT_ ?_
               refine dn_ HT_ ?_
               try go_wp2
               go_roundg k2
               case measure => have := HJ1.out; have := HK2.out; omega
               case rel => exact ⟨(wrap64 (x20_2 + 1)), oS, H', ⟨by have := HJ1.out; have := HK2.out; omega⟩, ⟨oF BK196⟩, ⟨oB⟩⟩
             ·cases H
            ·cases H
           ·have H' := Aside0.mk H
            clear H
            have p198 : (0 ≤ (x20_2 : Int)) = True := oT
            have q198 : (x20_2 < (l0_0.length : Int)) = True := oT
            obtain ⟨ad198, A198_3, c198_3, A198_4, c198_4, A198_5, c198_5, e198, hx198_0, hx198_1, hx198_2, hx198_3, hx198_4, hx198_5, hl198_3, hi198_3, hl198_4, hi198_4, hl198_5, hi198_5⟩ := at_T51 HR0_0.out x20_2 oa oa
            cases e198
            replace hx198_0 := cB HB hx198_0
            replace hx198_1 := cB HB hx198_1
            replace hx198_2 := cB HB hx198_2
            replace hx198_3 := cB HB hx198_3
            replace hx198_4 := cB HB hx198_4
            replace hx198_5 := cB HB hx198_5
            have HR198_3 := Aside0.mk hi198_3
            have HC198_3 := Aside0.mk hl198_3
            clear hi198_3 hl198_3
            have HR198_4 := Aside0.mk hi198_4
            have HC198_4 := Aside0.mk hl198_4
            clear hi198_4 hl198_4
            have HR198_5 := Aside0.mk hi198_5
            have HC198_5 := Aside0.mk hl198_5
            clear hi198_5 hl198_5
            try go_wp2_with (first | ((with_reducible refine gate_dst (N := 4) rfl ?_); refine bx_ 4 #[.int .i64 0, .int .i64 0, .int .i64 0, .slice none 0 0, .slice none 0 0, .slice none 0 0] 51 ?_; intro gb199 hg w39 hbox hb; have BK199 := Aside0.mk (hbox); have GW199 := gs_ hg; have NB196_199 := nl_ hg BK196; have NB199_196 := nr_ hg BK196; replace BK196 := kb_ BK196 hb; replace HB := Aside0.mk (below_step oB hb); clear hb hbox hg; have hnb40 := NB199_196.out; have hnc40 := NB196_199.out; obtain ⟨⟨_, _, _, _, _, _⟩, _, _, _, _, _, _⟩ := z6 BK199))
            generalize hW_ : ((((((w39.setCell ⟨gb199, 0, none⟩ (.int .i64 ((rd_T51 l0_0 x20_2).f0))).setCell ⟨gb199, 1, none⟩ (.int .i64 ((rd_T51 l0_0 x20_2).f1))).setCell ⟨gb199, 2, none⟩ (.int .i64 ((rd_T51 l0_0 x20_2).f2))).setCell ⟨gb199, 3, none⟩ (.slice A198_3 ((rd_T51 l0_0 x20_2).f3).length c198_3)).setCell ⟨gb199, 4, none⟩ (.slice A198_4 ((rd_T51 l0_0 x20_2).f4).length c198_4)).setCell ⟨gb199, 5, none⟩ (.slice A198_5 ((rd_T51 l0_0 x20_2).f5).length c198_5)) = w42
            replace BK196 := kw_ hW_ BK196
            replace BK199 := kv_ #[.int .i64 ((rd_T51 l0_0 x20_2).f0), .int .i64 ((rd_T51 l0_0 x20_2).f1), .int .i64 ((rd_T51 l0_0 x20_2).f2), .slice A198_3 ((rd_T51 l0_0 x20_2).f3).length c198_3, .slice A198_4 ((rd_T51 l0_0 x20_2).f4).length c198_4, .slice A198_5 ((rd_T51 l0_0 x20_2).f5).length c198_5] hW_ BK199
            replace HB := hw_ hW_ HB
            clear hW_
            replace BK196 := Aside0.mk (blk_drew BK196.out)
            replace BK199 := Aside0.mk (blk_drew BK199.out)
            replace HB := Aside0.mk (below_drew1 HB.out)
            refine st_ 26 (fun w' => w'.cell? ⟨gb199, 0, none⟩ = some (.int .i64 ((rd_T51 l0_0 x20_2).f0)) ∧ w'.cell? ⟨gb199, 1, none⟩ = some (.int .i64 ((rd_T51 l0_0 x20_2).f1)) ∧ w'.cell? ⟨gb199, 2, none⟩ = some (.int .i64 ((rd_T51 l0_0 x20_2).f2)) ∧ w'.cell? ⟨gb199, 3, none⟩ = some (.slice A198_3 ((rd_T51 l0_0 x20_2).f3).length c198_3) ∧ w'.cell? ⟨gb199, 4, none⟩ = some (.slice A198_4 ((rd_T51 l0_0 x20_2).f4).length c198_4) ∧ w'.cell? ⟨gb199, 5, none⟩ = some (.slice A198_5 ((rd_T51 l0_0 x20_2).f5).length c198_5) ∧ w'.cell? ⟨gb196, 0, none⟩ = some (.slice (some ad198) l0_0.length c0_0) ∧ w'.cell? ⟨gb196, 1, none⟩ = some (.int .i64 a0_1)) impl_TabOk.tab6 impl_TabOk.bits6 oH (fun hHeld HT_ HW_ => ?_)
            generalize w42.drew = w43 at BK196 BK199 HB hHeld ⊢
            refine ta_ 0 25 HT_ HW_ hHeld ?_
            refine on_ 1 26 HT_ (fun K hK => ?_)
            refine gr_ 26 Tryz.func66 (impl_InodeOk.calls k2 ((rd_T51 l0_0 x20_2).f0) ((rd_T51 l0_0 x20_2).f1) ((rd_T51 l0_0 x20_2).f2) _ _ ((rd_T51 l0_0 x20_2).f3) _ _ ((rd_T51 l0_0 x20_2).f4) _ _ ((rd_T51 l0_0 x20_2).f5) true _ (kC HR198_3) HC198_3.out (kC HR198_4) HC198_4.out (kC HR198_5) HC198_5.out A13.out) ?_
            rintro e w44 ⟨rfl, hb⟩
            refine ⟨_, rfl, ?_⟩
            replace BK196 := kb_ BK196 hb
            replace BK199 := kb_ BK199 hb
            replace HB := Aside0.mk (below_step oB hb)
            refine hk_ hK 26 oH (fun hHeld => ?_)
            clear hK K
            refine pu_ 2 27 HT_ ?_
            refine pu_ 3 28 HT_ ?_
            refine pu_ 4 29 HT_ ?_
            refine pu_ 6 31 HT_ ?_
            refine ta_ 5 30 HT_ HW_ hHeld ?_
            refine ta_ 7 32 HT_ HW_ hHeld ?_
            refine pu_ 8 33 HT_ ?_
            refine pu_ 9 34 HT_ ?_
            refine pu_ 10 35 HT_ ?_
            refine pu_ 11 36 HT_ ?_
            refine pu_ 12 37 HT_ ?_
            refine pu_ 13 38 HT_ ?_
            refine pn_ 14 39 HT_ ?_
            refine pn_ 15 40 HT_ ?_
            refine pn_ 16 41 HT_ ?_
            refine pn_ 17 42 HT_ ?_
            refine pn_ 18 43 HT_ ?_
            refine pn_ 19 44 HT_ ?_
            refine pn_ 20 45 HT_ ?_
            refine pn_ 21 46 HT_ ?_
            refine pn_ 22 47 HT_ ?_
            refine pn_ 23 48 HT_ ?_
            refine pu_ 24 49 HT_ ?_
            refine pu_ 25 50 HT_ ?_
            refine dn_ HT_ ?_
            try go_wp2
            go_roundg k2
            case measure => have := HJ1.out; have := HK2.out; omega
            case rel => exact ⟨(wrap64 (x20_2 + 1)), oS, H', ⟨by have := HJ1.out; have := HK2.out; omega⟩, ⟨oF BK196⟩, ⟨oB⟩⟩
         ·obtain rfl := Option.some.inj H
          have p198 : (0 ≤ (x20_2 : Int)) = True := oT
          have q198 : (x20_2 < (l0_0.length : Int)) = True := oT
          obtain ⟨ad198, A198_3, c198_3, A198_4, c198_4, A198_5, c198_5, e198, hx198_0, hx198_1, hx198_2, hx198_3, hx198_4, hx198_5, hl198_3, hi198_3, hl198_4, hi198_4, hl198_5, hi198_5⟩ := at_T51 HR0_0.out x20_2 oa oa
          cases e198
          replace hx198_0 := cB HB hx198_0
          replace hx198_1 := cB HB hx198_1
          replace hx198_2 := cB HB hx198_2
          replace hx198_3 := cB HB hx198_3
          replace hx198_4 := cB HB hx198_4
          replace hx198_5 := cB HB hx198_5
          have HR198_3 := Aside0.mk hi198_3
          have HC198_3 := Aside0.mk hl198_3
          clear hi198_3 hl198_3
          have HR198_4 := Aside0.mk hi198_4
          have HC198_4 := Aside0.mk hl198_4
          clear hi198_4 hl198_4
          have HR198_5 := Aside0.mk hi198_5
          have HC198_5 := Aside0.mk hl198_5
          clear hi198_5 hl198_5
          try go_wp2_with (first | ((with_reducible refine gate_dst (N := 4) rfl ?_); refine bx_ 4 #[.int .i64 0, .int .i64 0, .int .i64 0, .slice none 0 0, .slice none 0 0, .slice none 0 0] 51 ?_; intro gb199 hg w45 hbox hb; have BK199 := Aside0.mk (hbox); have GW199 := gs_ hg; have NB196_199 := nl_ hg BK196; have NB199_196 := nr_ hg BK196; replace BK196 := kb_ BK196 hb; replace HB := Aside0.mk (below_step oB hb); clear hb hbox hg; have hnb46 := NB199_196.out; have hnc46 := NB196_199.out; obtain ⟨⟨_, _, _, _, _, _⟩, _, _, _, _, _, _⟩ := z6 BK199))
          generalize hW_ : ((((((w45.setCell ⟨gb199, 0, none⟩ (.int .i64 ((rd_T51 l0_0 x20_2).f0))).setCell ⟨gb199, 1, none⟩ (.int .i64 ((rd_T51 l0_0 x20_2).f1))).setCell ⟨gb199, 2, none⟩ (.int .i64 ((rd_T51 l0_0 x20_2).f2))).setCell ⟨gb199, 3, none⟩ (.slice A198_3 ((rd_T51 l0_0 x20_2).f3).length c198_3)).setCell ⟨gb199, 4, none⟩ (.slice A198_4 ((rd_T51 l0_0 x20_2).f4).length c198_4)).setCell ⟨gb199, 5, none⟩ (.slice A198_5 ((rd_T51 l0_0 x20_2).f5).length c198_5)) = w48
          replace BK196 := kw_ hW_ BK196
          replace BK199 := kv_ #[.int .i64 ((rd_T51 l0_0 x20_2).f0), .int .i64 ((rd_T51 l0_0 x20_2).f1), .int .i64 ((rd_T51 l0_0 x20_2).f2), .slice A198_3 ((rd_T51 l0_0 x20_2).f3).length c198_3, .slice A198_4 ((rd_T51 l0_0 x20_2).f4).length c198_4, .slice A198_5 ((rd_T51 l0_0 x20_2).f5).length c198_5] hW_ BK199
          replace HB := hw_ hW_ HB
          clear hW_
          replace BK196 := Aside0.mk (blk_drew BK196.out)
          replace BK199 := Aside0.mk (blk_drew BK199.out)
          replace HB := Aside0.mk (below_drew1 HB.out)
          refine st_ 26 (fun w' => w'.cell? ⟨gb199, 0, none⟩ = some (.int .i64 ((rd_T51 l0_0 x20_2).f0)) ∧ w'.cell? ⟨gb199, 1, none⟩ = some (.int .i64 ((rd_T51 l0_0 x20_2).f1)) ∧ w'.cell? ⟨gb199, 2, none⟩ = some (.int .i64 ((rd_T51 l0_0 x20_2).f2)) ∧ w'.cell? ⟨gb199, 3, none⟩ = some (.slice A198_3 ((rd_T51 l0_0 x20_2).f3).length c198_3) ∧ w'.cell? ⟨gb199, 4, none⟩ = some (.slice A198_4 ((rd_T51 l0_0 x20_2).f4).length c198_4) ∧ w'.cell? ⟨gb199, 5, none⟩ = some (.slice A198_5 ((rd_T51 l0_0 x20_2).f5).length c198_5)) impl_TabOk.tab6 impl_TabOk.bits6 oH (fun hHeld HT_ HW_ => ?_)
          generalize w48.drew = w49 at BK196 BK199 HB hHeld ⊢
          refine ta_ 0 25 HT_ HW_ hHeld ?_
          refine on_ 1 26 HT_ (fun K hK => ?_)
          refine gr_ 26 Tryz.func66 (impl_InodeOk.calls k2 ((rd_T51 l0_0 x20_2).f0) ((rd_T51 l0_0 x20_2).f1) ((rd_T51 l0_0 x20_2).f2) _ _ ((rd_T51 l0_0 x20_2).f3) _ _ ((rd_T51 l0_0 x20_2).f4) _ _ ((rd_T51 l0_0 x20_2).f5) false _ (kC HR198_3) HC198_3.out (kC HR198_4) HC198_4.out (kC HR198_5) HC198_5.out A13.out) ?_
          rintro e w50 ⟨rfl, hb⟩
          refine ⟨_, rfl, ?_⟩
          replace BK196 := kb_ BK196 hb
          replace BK199 := kb_ BK199 hb
          replace HB := Aside0.mk (below_step oB hb)
          refine hk_ hK 26 oH (fun hHeld => ?_)
          clear hK K
          refine pu_ 2 27 HT_ ?_
          refine pu_ 3 28 HT_ ?_
          refine pn_ 4 29 HT_ ?_
          refine pn_ 5 30 HT_ ?_
          refine pn_ 6 31 HT_ ?_
          refine pn_ 7 32 HT_ ?_
          refine pn_ 8 33 HT_ ?_
          refine pu_ 9 34 HT_ ?_
          refine pu_ 10 35 HT_ ?_
          refine pn_ 11 36 HT_ ?_
          refine pn_ 12 37 HT_ ?_
          refine pn_ 13 38 HT_ ?_
          refine pn_ 14 39 HT_ ?_
          refine pn_ 15 40 HT_ ?_
          refine pn_ 16 41 HT_ ?_
          refine pn_ 17 42 HT_ ?_
          refine pn_ 18 43 HT_ ?_
          refine pn_ 19 44 HT_ ?_
          refine pn_ 20 45 HT_ ?_
          refine pn_ 21 46 HT_ ?_
          refine pn_ 22 47 HT_ ?_
          refine pn_ 23 48 HT_ ?_
          refine pn_ 24 49 HT_ ?_
          refine pu_ 25 50 HT_ ?_
          refine dn_ HT_ ?_
          try go_wp2
          go_ret
          exact ⟨oE, oB⟩
        ·cases H
       ·cases H
      ·replace H := bA H
       obtain ⟨⟨t202, t203, t204, t205, t208, t211, t214⟩, A51, H⟩ := H
       try dsimp only at H
       replace H := itB H
       rcases H with ⟨rfl, H⟩ | ⟨rfl, H⟩
       ·obtain rfl := Option.some.inj H
        obtain ⟨⟨_, _⟩, _, _⟩ := z2 BK196
        go_wp2_with (first | ((with_reducible refine gate_callee (f := 42) rfl ?_); refine gl_ 54 Tryz.func42 (impl_InodeAt.calls k2 _ _ l0_0 a0_1 1 t202 t203 t204 t205 t208 t211 true _ (kC HR0_0) HC0_0.out A51.out) ?_; rintro e w54 ⟨v206, v209, v212, rfl, ho0, ho1, ho2, hb⟩; refine ⟨_, rfl, ?_⟩; have HO207 := Aside0.mk (Kd.R_lower ho0 (below_size oB)); have HO210 := Aside0.mk (Kd.R_lower ho1 (below_size oB)); have HO213 := Aside0.mk (Kd.R_lower ho2 (below_size oB)); replace BK196 := kb_ BK196 hb; replace HB := Aside0.mk (below_step oB hb); (try clear ho1); (try clear ho2)) | ((with_reducible refine gate_dst (N := 5) rfl ?_); refine bx_ 5 #[.int .i64 0, .int .i64 0, .int .i64 0, .slice none 0 0, .slice none 0 0, .slice none 0 0] 51 ?_; intro gb215 hg w55 hbox hb; have BK215 := Aside0.mk (hbox); have GW215 := gs_ hg; have NB196_215 := nl_ hg BK196; have NB215_196 := nr_ hg BK196; replace HO207 := kr_ HO207 hb; replace HO210 := kr_ HO210 hb; replace HO213 := kr_ HO213 hb; replace BK196 := kb_ BK196 hb; replace HB := Aside0.mk (below_step oB hb); clear hb hbox hg; have hnb56 := NB215_196.out; have hnc56 := NB196_215.out; obtain ⟨⟨_, _, _, _, _, _⟩, _, _, _, _, _, _⟩ := z6 BK215; obtain ⟨Ao58, co58, eo58⟩ := Kd.R_slice HO207.out; subst eo58; obtain ⟨Ao59, co59, eo59⟩ := Kd.R_slice HO210.out; subst eo59; obtain ⟨Ao60, co60, eo60⟩ := Kd.R_slice HO213.out; subst eo60))
        go_ret
        exact ⟨oE, oB⟩
       ·obtain rfl := Option.some.inj H
        obtain ⟨⟨_, _⟩, _, _⟩ := z2 BK196
        go_wp2_with (first | ((with_reducible refine gate_callee (f := 42) rfl ?_); refine gl_ 54 Tryz.func42 (impl_InodeAt.calls k2 _ _ l0_0 a0_1 1 t202 t203 t204 t205 t208 t211 false _ (kC HR0_0) HC0_0.out A51.out) ?_; rintro e w62 ⟨v206, v209, v212, rfl, ho0, ho1, ho2, hb⟩; refine ⟨_, rfl, ?_⟩; have HO207 := Aside0.mk (Kd.R_lower ho0 (below_size oB)); have HO210 := Aside0.mk (Kd.R_lower ho1 (below_size oB)); have HO213 := Aside0.mk (Kd.R_lower ho2 (below_size oB)); replace BK196 := kb_ BK196 hb; replace HB := Aside0.mk (below_step oB hb); (try clear ho1); (try clear ho2)) | ((with_reducible refine gate_dst (N := 5) rfl ?_); refine bx_ 5 #[.int .i64 0, .int .i64 0, .int .i64 0, .slice none 0 0, .slice none 0 0, .slice none 0 0] 51 ?_; intro gb215 hg w63 hbox hb; have BK215 := Aside0.mk (hbox); have GW215 := gs_ hg; have NB196_215 := nl_ hg BK196; have NB215_196 := nr_ hg BK196; replace HO207 := kr_ HO207 hb; replace HO210 := kr_ HO210 hb; replace HO213 := kr_ HO213 hb; replace BK196 := kb_ BK196 hb; replace HB := Aside0.mk (below_step oB hb); clear hb hbox hg; have hnb64 := NB215_196.out; have hnc64 := NB196_215.out; obtain ⟨⟨_, _, _, _, _, _⟩, _, _, _, _, _, _⟩ := z6 BK215; obtain ⟨Ao66, co66, eo66⟩ := Kd.R_slice HO207.out; subst eo66; obtain ⟨Ao67, co67, eo67⟩ := Kd.R_slice HO210.out; subst eo67; obtain ⟨Ao68, co68, eo68⟩ := Kd.R_slice HO213.out; subst eo68))
        go_ret
        exact ⟨oE, oB⟩

end Go.Proofs.YtkcfmbggdkkfeaaGreatDoor.P
