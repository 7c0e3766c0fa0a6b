-- By this session's own program (wip/myprint.py) out of the translation; Lean checks it.
import Derived.Test.YtkcfmbggdkkfeaaGreatDoorPx0
import Derived.Test.YtkcfmbggdkkfeaaGreatDoorPx1
import Derived.Test.YtkcfmbggdkkfeaaGreatDoorPx2
namespace Go.Proofs.YtkcfmbggdkkfeaaGreatDoor.P
open Go.RowKit Go.Proofs.YtkcfmbggdkkfeaaGreatDoorW.PrintWords Go.Proofs.YtkcfmbggdkkfeaaGreatDoorW.PrintLast Go.Proofs.YtkcfmbggdkkfeaaGreatDoorW.PrintMore
attribute [local go_sem] max2_int min2_int max_two min_two max_three min_three max_four min_four   -- for this text's walks alone
set_option linter.unusedVariables false
set_option linter.unusedSimpArgs false

/-! ### impl_TabOk: function 38 -/
mutual
def impl_TabOk.j0 : Nat → Bool → List (S51) → Int → Option (Bool)
 | 0, _, _, _ => none
 | k + 1, x16, x197000, x197001 => if x16 = true then (some false) else (impl_TabOk.l0 k x197000 (x197000.length : Int) 0 x197000 x197001)
def impl_TabOk.l0 : Nat → List (S51) → Int → Int → List (S51) → Int → Option (Bool)
 | 0, _, _, _, _, _ => none
 | k + 1, x18, x19, x20, x197000, x197001 => if x20 < x19 then (if 0 ≤ x20 then (if x20 < (x18.length : Int) then ((impl_InodeOk.f k ((rd_T51 x18 x20).f0) ((rd_T51 x18 x20).f1) ((rd_T51 x18 x20).f2) ((rd_T51 x18 x20).f3) ((rd_T51 x18 x20).f4) ((rd_T51 x18 x20).f5)).bind fun t200 => (if t200 = true then (if ((rd_T51 x18 x20).f0) ≥ x197001 then (some false) else (if x20 > 0 then (if 0 ≤ (wrap64 (x20 - 1)) then (if (wrap64 (x20 - 1)) < (x197000.length : Int) then (if ((rd_T51 x197000 (wrap64 (x20 - 1))).f0) ≥ ((rd_T51 x18 x20).f0) then (some false) else (impl_TabOk.l0 k x18 x19 (wrap64 (x20 + 1)) x197000 x197001)) else (none)) else (none)) else (impl_TabOk.l0 k x18 x19 (wrap64 (x20 + 1)) x197000 x197001))) else (some false))) else (none)) else (none)) else ((impl_InodeAt.f k x197000 x197001 1).bind fun bt202 => (if bt202.2.2.2.2.2.2 = true then (some (bt202.2.1 == 2)) else (some false)))
end
def impl_TabOk.f (k : Nat) (l0_0 : List (S51)) (a0_1 : Int) : Option (Bool) := if (l0_0.length : Int) > 30 then (impl_TabOk.j0 k true l0_0 a0_1) else ((impl_from.f a0_1 2 1000).bind fun t197 => (impl_TabOk.j0 k (!t197) l0_0 a0_1))
def impl_TabOk.T6 : Bool × List (List Nat × List Nat) := (true, [([], []), ([0], [0]), ([1], [1]), ([2, 1], [2]), ([3], [3]), ([4, 3], [3, 4]), ([3], [3]), ([6, 3], [3, 6]), ([5, 7, 3], [3, 5, 7]), ([3, 8], [3, 8]), ([9, 3], [9]), ([10], [10]), ([11, 10], [10, 11]), ([12, 10, 10], [10, 12]), ([13], [13]), ([14, 13], [13, 14]), ([13], [13]), ([16, 13], [13, 16]), ([15, 17, 13], [13, 15, 17]), ([18, 13], [13, 18]), ([19, 13], [13, 19]), ([13], [13]), ([21, 13], [13, 21]), ([20, 22, 13], [13, 20, 22]), ([13, 23, 10], [10, 13, 23]), ([10, 24], [10, 24])])
def impl_TabOk.B6 : List Nat := [0, 1, 3, 7, 15, 31, 15, 79, 255, 511, 1023, 2047, 4095, 8191, 16383, 32767, 16383, 81919, 262143, 524287, 1048575, 16383, 2113535, 8388607, 16777215, 33554431]
theorem impl_TabOk.tab6 : rtab .any (opsOf Tryz.f38 6) = impl_TabOk.T6 := by kernel_rfl
theorem impl_TabOk.bits6 : waitsOk impl_TabOk.T6.2 impl_TabOk.B6 = true := by kernel_rfl
set_option maxHeartbeats 8000000 in
set_option maxRecDepth 100000 in
theorem impl_TabOk.calls (k : Nat) (A0_0 : Option Addr) (c0_0 : Nat) (l0_0 : List (S51)) (a0_1 : Int) (r : Bool) (w : World) (hr0_0 : Kd.C k51 w A0_0 l0_0.length l0_0) (hc0_0 : l0_0.length ≤ c0_0) (h : impl_TabOk.f k l0_0 a0_1 = some r) :
  Calls Tryz.prog 38 #[.agg #[.slice A0_0 l0_0.length c0_0, .int .i64 a0_1]] w fun e w' => e = .returned (.bool r) ∧ Below w.heap.size w w' := by
 have hu26 := Tryz.underlying26
 have hu51 := Tryz.underlying51
 have HR0_0 := Aside0.mk hr0_0
 have HC0_0 := Aside0.mk hc0_0
 clear hr0_0 hc0_0
 have HB := Aside0.mk (Below.refl w.heap.size w)
 unfold impl_TabOk.f at h
 have H := h
 clear h
 have HC2 := Aside0.mk H
 clear H
 go_enter Tryz.func38, Tryz.ntmps38
 go_upto_region 1 with (first | ((with_reducible refine gate_dst (N := 1) rfl ?_); refine bx_ 1 #[.slice A0_0 l0_0.length c0_0, .int .i64 a0_1] 26 ?_; intro gb196 hg w3 hbox hb; have BK196 := Aside0.mk (hbox); have GW196 := gs_ hg; replace HB := Aside0.mk (below_step oB hb); clear hb hbox hg))
 (try simp only [Act.put, List.setIfInBounds_toArray, List.set_cons_zero, List.set_cons_succ])
 go_cut [16] (fun v16 wc => ∃ (kq : Nat) (x16_1 : Bool), v16 = .bool x16_1 ∧ Aside0 (impl_TabOk.j0 kq x16_1 l0_0 a0_1 = some r) ∧ Aside0 (kq ≤ k) ∧ Aside0 (wc.heap[gb196]? = some (.cells #[(.slice A0_0 l0_0.length c0_0), .int .i64 a0_1] 26 (0, 0))) ∧ Aside0 (Below w.heap.size w wc))
 case first =>
  have H := HC2.out
  clear HC2
  by_cases c4 : (l0_0.length : Int) > 30
  ·rw [if_pos c4] at H
   have c4b0 : decide (30 < (l0_0.length : Int)) = true := decide_eq_true c4
   have c4b1 : decide (30 < l0_0.length) = true := decide_eq_true (by omega)
   clear c4
   (first | rw [c4b0] | rw [c4b2] | (simp only [i64_w, i32_w]; rw [c4b0]) | skip)
   have H' := Aside0.mk H
   clear H
   obtain ⟨⟨_, _⟩, _, _⟩ := z2 BK196
   go_wp2
   go_meet
   case rel => exact ⟨_, (true), oS, H', ⟨by first | omega | exact Nat.le_refl _⟩, ⟨oF BK196⟩, ⟨oB⟩⟩
  ·rw [if_neg c4] at H
   have c4b0 : decide (30 < (l0_0.length : Int)) = false := decide_eq_false c4
   have c4b1 : decide (30 < l0_0.length) = false := decide_eq_false (by omega)
   clear c4
   (first | rw [c4b0] | rw [c4b2] | (simp only [i64_w, i32_w]; rw [c4b0]) | skip)
   replace H := bA H
   obtain ⟨t197, A6, H⟩ := H
   try dsimp only at H
   have H' := Aside0.mk H
   clear H
   obtain ⟨⟨_, _⟩, _, _⟩ := z2 BK196
   go_wp2_with (first | (go_at_call 47; (with_reducible refine (impl_from.calls a0_1 2 1000 t197 _ A6.out).mono ?_); rintro e w' ⟨rfl, ⟨nd, rfl⟩⟩))
   go_meet
   case rel => exact ⟨_, (!t197), oS, H', ⟨by first | omega | exact Nat.le_refl _⟩, ⟨oF BK196⟩, ⟨oB⟩⟩
 case rest =>
  clear HC2
  obtain ⟨kq, x16_1, rfl, HA, HJ1, BK196, HB⟩ := hcut
  cases kq with
  | zero => exact absurd HA.out (by simp [impl_TabOk.j0])
  | succ kj1 =>
   have H := HA.out
   clear HA
   simp only [impl_TabOk.j0] at H
   replace H := itB H
   rcases H with ⟨rfl, H⟩ | ⟨rfl, H⟩
   ·obtain rfl := Option.some.inj H
    go_wp2
    go_ret
    exact ⟨oE, oB⟩
   ·have H' := Aside0.mk H
    clear H
    obtain ⟨⟨_, _⟩, _, _⟩ := z2 BK196
    go_wp2
    go_loopg [20] kj1 (fun kq v20 w' => ∃ (x20_2 : Int), v20 = .int .i64 x20_2 ∧ Aside0 (impl_TabOk.l0 kq l0_0 (l0_0.length : Int) x20_2 l0_0 a0_1 = some r) ∧ Aside0 (kq ≤ kj1) ∧ Aside0 (w'.heap[gb196]? = some (.cells #[(.slice A0_0 l0_0.length c0_0), .int .i64 a0_1] 26 (0, 0))) ∧ Aside0 (Below w.heap.size w w'))
    case atStart => exact ⟨(0), oS, H', ⟨Nat.le_refl _⟩, ⟨oF BK196⟩, ⟨oB⟩⟩
    case round =>
     clear H'
     obtain ⟨x20_2, rfl, HA, HK2, BK196, HB⟩ := hrel
     cases gk with
     | zero => exact absurd HA.out (by simp [impl_TabOk.l0])
     | succ k2 =>
      have H := HA.out
      clear HA
      simp only [impl_TabOk.l0] at H
      replace H := itD H
      rcases H with ⟨c10b0, H⟩ | ⟨c10b0, H⟩
      ·replace H := itD H
       rcases H with ⟨c11b0, H⟩ | ⟨c11b0, H⟩
       ·replace H := itD H
        rcases H with ⟨c12b0, H⟩ | ⟨c12b0, H⟩
        ·replace H := bA H
         obtain ⟨t200, A13, H⟩ := H
         try dsimp only at H
         replace H := itB H
         rcases H with ⟨rfl, H⟩ | ⟨rfl, H⟩
         ·replace H := itH H
          rcases H with ⟨c15b0, H⟩ | ⟨c15b0, H⟩
          ·obtain rfl := Option.some.inj H
           have p198 : (0 ≤ (x20_2 : Int)) = True := oT
           have q198 : (x20_2 < (l0_0.length : Int)) = True := oT
           obtain ⟨ad198, A198_3, c198_3, A198_4, c198_4, A198_5, c198_5, e198, hx198_0, hx198_1, hx198_2, hx198_3, hx198_4, hx198_5, hl198_3, hi198_3, hl198_4, hi198_4, hl198_5, hi198_5⟩ := at_T51 HR0_0.out x20_2 oa oa
           cases e198
           replace hx198_0 := cB HB hx198_0
           replace hx198_1 := cB HB hx198_1
           replace hx198_2 := cB HB hx198_2
           replace hx198_3 := cB HB hx198_3
           replace hx198_4 := cB HB hx198_4
           replace hx198_5 := cB HB hx198_5
           have HR198_3 := Aside0.mk hi198_3
           have HC198_3 := Aside0.mk hl198_3
           clear hi198_3 hl198_3
           have HR198_4 := Aside0.mk hi198_4
           have HC198_4 := Aside0.mk hl198_4
           clear hi198_4 hl198_4
           have HR198_5 := Aside0.mk hi198_5
           have HC198_5 := Aside0.mk hl198_5
           clear hi198_5 hl198_5
           try go_wp2_with (first | ((with_reducible refine gate_dst (N := 4) rfl ?_); refine bx_ 4 #[.int .i64 0, .int .i64 0, .int .i64 0, .slice none 0 0, .slice none 0 0, .slice none 0 0] 51 ?_; intro gb199 hg w16 hbox hb; have BK199 := Aside0.mk (hbox); have GW199 := gs_ hg; have NB196_199 := nl_ hg BK196; have NB199_196 := nr_ hg BK196; replace BK196 := kb_ BK196 hb; replace HB := Aside0.mk (below_step oB hb); clear hb hbox hg; have hnb17 := NB199_196.out; have hnc17 := NB196_199.out; obtain ⟨⟨_, _, _, _, _, _⟩, _, _, _, _, _, _⟩ := z6 BK199))
           generalize hW_ : ((((((w16.setCell ⟨gb199, 0, none⟩ (.int .i64 ((rd_T51 l0_0 x20_2).f0))).setCell ⟨gb199, 1, none⟩ (.int .i64 ((rd_T51 l0_0 x20_2).f1))).setCell ⟨gb199, 2, none⟩ (.int .i64 ((rd_T51 l0_0 x20_2).f2))).setCell ⟨gb199, 3, none⟩ (.slice A198_3 ((rd_T51 l0_0 x20_2).f3).length c198_3)).setCell ⟨gb199, 4, none⟩ (.slice A198_4 ((rd_T51 l0_0 x20_2).f4).length c198_4)).setCell ⟨gb199, 5, none⟩ (.slice A198_5 ((rd_T51 l0_0 x20_2).f5).length c198_5)) = w19
           replace BK196 := kw_ hW_ BK196
           replace BK199 := kv_ #[.int .i64 ((rd_T51 l0_0 x20_2).f0), .int .i64 ((rd_T51 l0_0 x20_2).f1), .int .i64 ((rd_T51 l0_0 x20_2).f2), .slice A198_3 ((rd_T51 l0_0 x20_2).f3).length c198_3, .slice A198_4 ((rd_T51 l0_0 x20_2).f4).length c198_4, .slice A198_5 ((rd_T51 l0_0 x20_2).f5).length c198_5] hW_ BK199
           replace HB := hw_ hW_ HB
           clear hW_
           replace BK196 := Aside0.mk (blk_drew BK196.out)
           replace BK199 := Aside0.mk (blk_drew BK199.out)
           replace HB := Aside0.mk (below_drew1 HB.out)
           refine st_ 26 (fun w' => w'.cell? ⟨gb199, 0, none⟩ = some (.int .i64 ((rd_T51 l0_0 x20_2).f0)) ∧ w'.cell? ⟨gb199, 1, none⟩ = some (.int .i64 ((rd_T51 l0_0 x20_2).f1)) ∧ w'.cell? ⟨gb199, 2, none⟩ = some (.int .i64 ((rd_T51 l0_0 x20_2).f2)) ∧ w'.cell? ⟨gb199, 3, none⟩ = some (.slice A198_3 ((rd_T51 l0_0 x20_2).f3).length c198_3) ∧ w'.cell? ⟨gb199, 4, none⟩ = some (.slice A198_4 ((rd_T51 l0_0 x20_2).f4).length c198_4) ∧ w'.cell? ⟨gb199, 5, none⟩ = some (.slice A198_5 ((rd_T51 l0_0 x20_2).f5).length c198_5) ∧ w'.cell? ⟨gb196, 0, none⟩ = some (.slice (some ad198) l0_0.length c0_0) ∧ w'.cell? ⟨gb196, 1, none⟩ = some (.int .i64 a0_1)) impl_TabOk.tab6 impl_TabOk.bits6 oH (fun hHeld HT_ HW_ => ?_)
           generalize w19.drew = w20 at BK196 BK199 HB hHeld ⊢
           refine ta_ 0 25 HT_ HW_ hHeld ?_
           refine on_ 1 26 HT_ (fun K hK => ?_)
           refine gr_ 26 Tryz.func66 (impl_InodeOk.calls k2 ((rd_T51 l0_0 x20_2).f0) ((rd_T51 l0_0 x20_2).f1) ((rd_T51 l0_0 x20_2).f2) _ _ ((rd_T51 l0_0 x20_2).f3) _ _ ((rd_T51 l0_0 x20_2).f4) _ _ ((rd_T51 l0_0 x20_2).f5) true _ (kC HR198_3) HC198_3.out (kC HR198_4) HC198_4.out (kC HR198_5) HC198_5.out A13.out) ?_
           rintro e w21 ⟨rfl, hb⟩
           refine ⟨_, rfl, ?_⟩
           replace BK196 := kb_ BK196 hb
           replace BK199 := kb_ BK199 hb
           replace HB := Aside0.mk (below_step oB hb)
           refine hk_ hK 26 oH (fun hHeld => ?_)
           clear hK K
           refine pu_ 2 27 HT_ ?_
           refine pu_ 3 28 HT_ ?_
           refine pu_ 4 29 HT_ ?_
           refine pu_ 6 31 HT_ ?_
           refine ta_ 5 30 HT_ HW_ hHeld ?_
           refine ta_ 7 32 HT_ HW_ hHeld ?_
           refine pu_ 8 33 HT_ ?_
           refine pu_ 9 34 HT_ ?_
           refine pu_ 10 35 HT_ ?_
           refine pn_ 11 36 HT_ ?_
           refine pn_ 12 37 HT_ ?_
           refine pn_ 13 38 HT_ ?_
           refine pn_ 14 39 HT_ ?_
           refine pn_ 15 40 HT_ ?_
           refine pn_ 16 41 HT_ ?_
           refine pn_ 17 42 HT_ ?_
           refine pn_ 18 43 HT_ ?_
           refine pn_ 19 44 HT_ ?_
           refine pn_ 20 45 HT_ ?_
           refine pn_ 21 46 HT_ ?_
           refine pn_ 22 47 HT_ ?_
           refine pn_ 23 48 HT_ ?_
           refine pn_ 24 49 HT_ ?_
           refine pu_ 25 50 HT_ ?_
           refine dn_ HT_ ?_
           try go_wp2
           go_ret
           exact ⟨oE, oB⟩
          ·replace H := itG H
           rcases H with ⟨c22b0, H⟩ | ⟨c22b0, H⟩
           ·obtain ⟨ji23, hji23⟩ : ∃ j_ : Int, (wrap64 (x20_2 - 1)) = j_ := ⟨_, rfl⟩
            replace H : (if 0 ≤ (ji23) then (if (ji23) < (l0_0.length : Int) then (if ((rd_T51 l0_0 (ji23)).f0) ≥ ((rd_T51 l0_0 x20_2).f0) then (some false) else (impl_TabOk.l0 k2 l0_0 (l0_0.length : Int) (wrap64 (x20_2 + 1)) l0_0 a0_1)) else (none)) else (none)) = some r := by first | (rw [hji23] at H; exact H) | (simp only [hji23] at H ⊢; exact H)
            (try rw [hji23] at A13)
            have hji23w : (IntKind.i64.wrap (x20_2 - 1)) = ji23 := (i64_w _).trans hji23
            replace H := itD H
            rcases H with ⟨c24b0, H⟩ | ⟨c24b0, H⟩
            ·replace H := itD H
             rcases H with ⟨c25b0, H⟩ | ⟨c25b0, H⟩
             ·replace H := itH H
              rcases H with ⟨c26b0, H⟩ | ⟨c26b0, H⟩
              ·obtain rfl := Option.some.inj H
               have p198 : (0 ≤ (x20_2 : Int)) = True := oT
               have q198 : (x20_2 < (l0_0.length : Int)) = True := oT
               obtain ⟨ad198, A198_3, c198_3, A198_4, c198_4, A198_5, c198_5, e198, hx198_0, hx198_1, hx198_2, hx198_3, hx198_4, hx198_5, hl198_3, hi198_3, hl198_4, hi198_4, hl198_5, hi198_5⟩ := at_T51 HR0_0.out x20_2 oa oa
               cases e198
               replace hx198_0 := cB HB hx198_0
               replace hx198_1 := cB HB hx198_1
               replace hx198_2 := cB HB hx198_2
               replace hx198_3 := cB HB hx198_3
               replace hx198_4 := cB HB hx198_4
               replace hx198_5 := cB HB hx198_5
               have HR198_3 := Aside0.mk hi198_3
               have HC198_3 := Aside0.mk hl198_3
               clear hi198_3 hl198_3
               have HR198_4 := Aside0.mk hi198_4
               have HC198_4 := Aside0.mk hl198_4
               clear hi198_4 hl198_4
               have HR198_5 := Aside0.mk hi198_5
               have HC198_5 := Aside0.mk hl198_5
               clear hi198_5 hl198_5
               try go_wp2_with (first | ((with_reducible refine gate_dst (N := 4) rfl ?_); refine bx_ 4 #[.int .i64 0, .int .i64 0, .int .i64 0, .slice none 0 0, .slice none 0 0, .slice none 0 0] 51 ?_; intro gb199 hg w27 hbox hb; have BK199 := Aside0.mk (hbox); have GW199 := gs_ hg; have NB196_199 := nl_ hg BK196; have NB199_196 := nr_ hg BK196; replace BK196 := kb_ BK196 hb; replace HB := Aside0.mk (below_step oB hb); clear hb hbox hg; have hnb28 := NB199_196.out; have hnc28 := NB196_199.out; obtain ⟨⟨_, _, _, _, _, _⟩, _, _, _, _, _, _⟩ := z6 BK199))
               generalize hW_ : ((((((w27.setCell ⟨gb199, 0, none⟩ (.int .i64 ((rd_T51 l0_0 x20_2).f0))).setCell ⟨gb199, 1, none⟩ (.int .i64 ((rd_T51 l0_0 x20_2).f1))).setCell ⟨gb199, 2, none⟩ (.int .i64 ((rd_T51 l0_0 x20_2).f2))).setCell ⟨gb199, 3, none⟩ (.slice A198_3 ((rd_T51 l0_0 x20_2).f3).length c198_3)).setCell ⟨gb199, 4, none⟩ (.slice A198_4 ((rd_T51 l0_0 x20_2).f4).length c198_4)).setCell ⟨gb199, 5, none⟩ (.slice A198_5 ((rd_T51 l0_0 x20_2).f5).length c198_5)) = w30
               replace BK196 := kw_ hW_ BK196
               replace BK199 := kv_ #[.int .i64 ((rd_T51 l0_0 x20_2).f0), .int .i64 ((rd_T51 l0_0 x20_2).f1), .int .i64 ((rd_T51 l0_0 x20_2).f2), .slice A198_3 ((rd_T51 l0_0 x20_2).f3).length c198_3, .slice A198_4 ((rd_T51 l0_0 x20_2).f4).length c198_4, .slice A198_5 ((rd_T51 l0_0 x20_2).f5).length c198_5] hW_ BK199
               replace HB := hw_ hW_ HB
               clear hW_
               replace BK196 := Aside0.mk (blk_drew BK196.out)
               replace BK199 := Aside0.mk (blk_drew BK199.out)
               replace HB := Aside0.mk (below_drew1 HB.out)
               have p201 : (0 ≤ ((ji23) : Int)) = True := oT
               have q201 : ((ji23) < (l0_0.length : Int)) = True := oT
               obtain ⟨ad201, A201_3, c201_3, A201_4, c201_4, A201_5, c201_5, e201, hx201_0, hx201_1, hx201_2, hx201_3, hx201_4, hx201_5, hl201_3, hi201_3, hl201_4, hi201_4, hl201_5, hi201_5⟩ := at_T51 HR0_0.out (ji23) oa oa
               have hw201_5 := hx201_5
               have hw201_4 := hx201_4
               have hw201_3 := hx201_3
               have hw201_2 := hx201_2
               have hw201_1 := hx201_1
               have hw201_0 := hx201_0
               obtain rfl : ad198 = ad201 := (by injection e201)
               replace hx201_0 := cB HB hx201_0
               replace hx201_1 := cB HB hx201_1
               replace hx201_2 := cB HB hx201_2
               replace hx201_3 := cB HB hx201_3
               replace hx201_4 := cB HB hx201_4
               replace hx201_5 := cB HB hx201_5
               have HR201_3 := Aside0.mk hi201_3
               have HC201_3 := Aside0.mk hl201_3
               clear hi201_3 hl201_3
               have HR201_4 := Aside0.mk hi201_4
               have HC201_4 := Aside0.mk hl201_4
               clear hi201_4 hl201_4
               have HR201_5 := Aside0.mk hi201_5
               have HC201_5 := Aside0.mk hl201_5
               clear hi201_5 hl201_5
               refine st_ 26 (fun w' => w'.cell? ⟨gb199, 0, none⟩ = some (.int .i64 ((rd_T51 l0_0 x20_2).f0)) ∧ w'.cell? ⟨gb199, 1, none⟩ = some (.int .i64 ((rd_T51 l0_0 x20_2).f1)) ∧ w'.cell? ⟨gb199, 2, none⟩ = some (.int .i64 ((rd_T51 l0_0 x20_2).f2)) ∧ w'.cell? ⟨gb199, 3, none⟩ = some (.slice A198_3 ((rd_T51 l0_0 x20_2).f3).length c198_3) ∧ w'.cell? ⟨gb199, 4, none⟩ = some (.slice A198_4 ((rd_T51 l0_0 x20_2).f4).length c198_4) ∧ w'.cell? ⟨gb199, 5, none⟩ = some (.slice A198_5 ((rd_T51 l0_0 x20_2).f5).length c198_5) ∧ w'.cell? ⟨gb196, 0, none⟩ = some (.slice (some ad198) l0_0.length c0_0) ∧ w'.cell? ⟨gb196, 1, none⟩ = some (.int .i64 a0_1) ∧ w'.cell? (ad198.add (((ji23)).toNat * 6)) = some (.int .i64 ((rd_T51 l0_0 (ji23)).f0)) ∧ w'.cell? ⟨(ad198.add (((ji23)).toNat * 6)).block, (ad198.add (((ji23)).toNat * 6)).off + 1, none⟩ = some (.int .i64 ((rd_T51 l0_0 (ji23)).f1)) ∧ w'.cell? ⟨(ad198.add (((ji23)).toNat * 6)).block, (ad198.add (((ji23)).toNat * 6)).off + 2, none⟩ = some (.int .i64 ((rd_T51 l0_0 (ji23)).f2)) ∧ w'.cell? ⟨(ad198.add (((ji23)).toNat * 6)).block, (ad198.add (((ji23)).toNat * 6)).off + 3, none⟩ = some (.slice A201_3 ((rd_T51 l0_0 (ji23)).f3).length c201_3) ∧ w'.cell? ⟨(ad198.add (((ji23)).toNat * 6)).block, (ad198.add (((ji23)).toNat * 6)).off + 4, none⟩ = some (.slice A201_4 ((rd_T51 l0_0 (ji23)).f4).length c201_4) ∧ w'.cell? ⟨(ad198.add (((ji23)).toNat * 6)).block, (ad198.add (((ji23)).toNat * 6)).off + 5, none⟩ = some (.slice A201_5 ((rd_T51 l0_0 (ji23)).f5).length c201_5)) impl_TabOk.tab6 impl_TabOk.bits6 oH (fun hHeld HT_ HW_ => ?_)
               generalize w30.drew = w31 at BK196 BK199 HB HR201_3 HR201_4 HR201_5 hx201_0 hx201_1 hx201_2 hx201_3 hx201_4 hx201_5 hHeld ⊢
               refine ta_ 0 25 HT_ HW_ hHeld ?_
               refine on_ 1 26 HT_ (fun K hK => ?_)
               refine gr_ 26 Tryz.func66 (impl_InodeOk.calls k2 ((rd_T51 l0_0 x20_2).f0) ((rd_T51 l0_0 x20_2).f1) ((rd_T51 l0_0 x20_2).f2) _ _ ((rd_T51 l0_0 x20_2).f3) _ _ ((rd_T51 l0_0 x20_2).f4) _ _ ((rd_T51 l0_0 x20_2).f5) true _ (kC HR198_3) HC198_3.out (kC HR198_4) HC198_4.out (kC HR198_5) HC198_5.out A13.out) ?_
               rintro e w32 ⟨rfl, hb⟩
               refine ⟨_, rfl, ?_⟩
               replace BK196 := kb_ BK196 hb
               replace BK199 := kb_ BK199 hb
               replace HB := Aside0.mk (below_step oB hb)
               refine hk_ hK 26 oH (fun hHeld => ?_)
               clear hK K
               refine pu_ 2 27 HT_ ?_
               refine pu_ 3 28 HT_ ?_
               refine pu_ 4 29 HT_ ?_
               refine pu_ 6 31 HT_ ?_
               refine ta_ 5 30 HT_ HW_ hHeld ?_
               refine ta_ 7 32 HT_ HW_ hHeld ?_
               refine pu_ 8 33 HT_ ?_
               refine pu_ 9 34 HT_ ?_
               refine pu_ 10 35 HT_ ?_
               refine pu_ 11 36 HT_ ?_
               refine pu_ 12 37 HT_ ?_
               refine pu_ 13 38 HT_ ?_
               refine pu_ 14 39 HT_ ?_
               refine pu_ 16 41 HT_ ?_
               refine pu_ 17 42 HT_ ?_
               refine pu_ 21 46 HT_ ?_
               refine ta_ 15 40 HT_ HW_ hHeld ?_
               refine pu_ 18 43 HT_ ?_
               refine pu_ 19 44 HT_ ?_
               refine ta_ 20 45 HT_ HW_ hHeld ?_
               refine ta_ 22 47 HT_ HW_ hHeld ?_
               refine pu_ 23 48 HT_ ?_
               refine pu_ 24 49 HT_ ?_
               refine pu_ 25 50 HT_ ?_
               refine dn_ HT_ ?_
               try go_wp2
               go_ret
               exact ⟨by first | rfl | (simp [errW_none, errW_some] <;> rfl) | (simp only [← hji23]; first | rfl | (simp [errW_none, errW_some] <;> rfl)) | (simp [*, errW_none, errW_some] <;> rfl), oB⟩
              ·have H' := Aside0.mk H
               clear H
               have p198 : (0 ≤ (x20_2 : Int)) = True := oT
               have q198 : (x20_2 < (l0_0.length : Int)) = True := oT
               obtain ⟨ad198, A198_3, c198_3, A198_4, c198_4, A198_5, c198_5, e198, hx198_0, hx198_1, hx198_2, hx198_3, hx198_4, hx198_5, hl198_3, hi198_3, hl198_4, hi198_4, hl198_5, hi198_5⟩ := at_T51 HR0_0.out x20_2 oa oa
               cases e198
               replace hx198_0 := cB HB hx198_0
               replace hx198_1 := cB HB hx198_1
               replace hx198_2 := cB HB hx198_2
               replace hx198_3 := cB HB hx198_3
               replace hx198_4 := cB HB hx198_4
               replace hx198_5 := cB HB hx198_5
               have HR198_3 := Aside0.mk hi198_3
               have HC198_3 := Aside0.mk hl198_3
               clear hi198_3 hl198_3
               have HR198_4 := Aside0.mk hi198_4
               have HC198_4 := Aside0.mk hl198_4
               clear hi198_4 hl198_4
               have HR198_5 := Aside0.mk hi198_5
               have HC198_5 := Aside0.mk hl198_5
               clear hi198_5 hl198_5
               try go_wp2_with (first | ((with_reducible refine gate_dst (N := 4) rfl ?_); refine bx_ 4 #[.int .i64 0, .int .i64 0, .int .i64 0, .slice none 0 0, .slice none 0 0, .slice none 0 0] 51 ?_; intro gb199 hg w33 hbox hb; have BK199 := Aside0.mk (hbox); have GW199 := gs_ hg; have NB196_199 := nl_ hg BK196; have NB199_196 := nr_ hg BK196; replace BK196 := kb_ BK196 hb; replace HB := Aside0.mk (below_step oB hb); clear hb hbox hg; have hnb34 := NB199_196.out; have hnc34 := NB196_199.out; obtain ⟨⟨_, _, _, _, _, _⟩, _, _, _, _, _, _⟩ := z6 BK199))
               generalize hW_ : ((((((w33.setCell ⟨gb199, 0, none⟩ (.int .i64 ((rd_T51 l0_0 x20_2).f0))).setCell ⟨gb199, 1, none⟩ (.int .i64 ((rd_T51 l0_0 x20_2).f1))).setCell ⟨gb199, 2, none⟩ (.int .i64 ((rd_T51 l0_0 x20_2).f2))).setCell ⟨gb199, 3, none⟩ (.slice A198_3 ((rd_T51 l0_0 x20_2).f3).length c198_3)).setCell ⟨gb199, 4, none⟩ (.slice A198_4 ((rd_T51 l0_0 x20_2).f4).length c198_4)).setCell ⟨gb199, 5, none⟩ (.slice A198_5 ((rd_T51 l0_0 x20_2).f5).length c198_5)) = w36
               replace BK196 := kw_ hW_ BK196
               replace BK199 := kv_ #[.int .i64 ((rd_T51 l0_0 x20_2).f0), .int .i64 ((rd_T51 l0_0 x20_2).f1), .int .i64 ((rd_T51 l0_0 x20_2).f2), .slice A198_3 ((rd_T51 l0_0 x20_2).f3).length c198_3, .slice A198_4 ((rd_T51 l0_0 x20_2).f4).length c198_4, .slice A198_5 ((rd_T51 l0_0 x20_2).f5).length c198_5] hW_ BK199
               replace HB := hw_ hW_ HB
               clear hW_
               replace BK196 := Aside0.mk (blk_drew BK196.out)
               replace BK199 := Aside0.mk (blk_drew BK199.out)
               replace HB := Aside0.mk (below_drew1 HB.out)
               have p201 : (0 ≤ ((ji23) : Int)) = True := oT
               have q201 : ((ji23) < (l0_0.length : Int)) = True := oT
               obtain ⟨ad201, A201_3, c201_3, A201_4, c201_4, A201_5, c201_5, e201, hx201_0, hx201_1, hx201_2, hx201_3, hx201_4, hx201_5, hl201_3, hi201_3, hl201_4, hi201_4, hl201_5, hi201_5⟩ := at_T51 HR0_0.out (ji23) oa oa
               have hw201_5 := hx201_5
               have hw201_4 := hx201_4
               have hw201_3 := hx201_3
               have hw201_2 := hx201_2
               have hw201_1 := hx201_1
               have hw201_0 := hx201_0
               obtain rfl : ad198 = ad201 := (by injection e201)
               replace hx201_0 := cB HB hx201_0
               replace hx201_1 := cB HB hx201_1
               replace hx201_2 := cB HB hx201_2
               replace hx201_3 := cB HB hx201_3
               replace hx201_4 := cB HB hx201_4
               replace hx201_5 := cB HB hx201_5
               have HR201_3 := Aside0.mk hi201_3
               have HC201_3 := Aside0.mk hl201_3
               clear hi201_3 hl201_3
               have HR201_4 := Aside0.mk hi201_4
               have HC201_4 := Aside0.mk hl201_4
               clear hi201_4 hl201_4
               have HR201_5 := Aside0.mk hi201_5
               have HC201_5 := Aside0.mk hl201_5
               clear hi201_5 hl201_5
               refine st_ 26 (fun w' => w'.cell? ⟨gb199, 0, none⟩ = some (.int .i64 ((rd_T51 l0_0 x20_2).f0)) ∧ w'.cell? ⟨gb199, 1, none⟩ = some (.int .i64 ((rd_T51 l0_0 x20_2).f1)) ∧ w'.cell? ⟨gb199, 2, none⟩ = some (.int .i64 ((rd_T51 l0_0 x20_2).f2)) ∧ w'.cell? ⟨gb199, 3, none⟩ = some (.slice A198_3 ((rd_T51 l0_0 x20_2).f3).length c198_3) ∧ w'.cell? ⟨gb199, 4, none⟩ = some (.slice A198_4 ((rd_T51 l0_0 x20_2).f4).length c198_4) ∧ w'.cell? ⟨gb199, 5, none⟩ = some (.slice A198_5 ((rd_T51 l0_0 x20_2).f5).length c198_5) ∧ w'.cell? ⟨gb196, 0, none⟩ = some (.slice (some ad198) l0_0.length c0_0) ∧ w'.cell? ⟨gb196, 1, none⟩ = some (.int .i64 a0_1) ∧ w'.cell? (ad198.add (((ji23)).toNat * 6)) = some (.int .i64 ((rd_T51 l0_0 (ji23)).f0)) ∧ w'.cell? ⟨(ad198.add (((ji23)).toNat * 6)).block, (ad198.add (((ji23)).toNat * 6)).off + 1, none⟩ = some (.int .i64 ((rd_T51 l0_0 (ji23)).f1)) ∧ w'.cell? ⟨(ad198.add (((ji23)).toNat * 6)).block, (ad198.add (((ji23)).toNat * 6)).off + 2, none⟩ = some (.int .i64 ((rd_T51 l0_0 (ji23)).f2)) ∧ w'.cell? ⟨(ad198.add (((ji23)).toNat * 6)).block, (ad198.add (((ji23)).toNat * 6)).off + 3, none⟩ = some (.slice A201_3 ((rd_T51 l0_0 (ji23)).f3).length c201_3) ∧ w'.cell? ⟨(ad198.add (((ji23)).toNat * 6)).block, (ad198.add (((ji23)).toNat * 6)).off + 4, none⟩ = some (.slice A201_4 ((rd_T51 l0_0 (ji23)).f4).length c201_4) ∧ w'.cell? ⟨(ad198.add (((ji23)).toNat * 6)).block, (ad198.add (((ji23)).toNat * 6)).off + 5, none⟩ = some (.slice A201_5 ((rd_T51 l0_0 (ji23)).f5).length c201_5)) impl_TabOk.tab6 impl_TabOk.bits6 oH (fun hHeld HT_ HW_ => ?_)
               generalize w36.drew = w37 at BK196 BK199 HB HR201_3 HR201_4 HR201_5 hx201_0 hx201_1 hx201_2 hx201_3 hx201_4 hx201_5 hHeld ⊢
               refine ta_ 0 25 HT_ HW_ hHeld ?_
               refine on_ 1 26 HT_ (fun K hK => ?_)
               refine gr_ 26 Tryz.func66 (impl_InodeOk.calls k2 ((rd_T51 l0_0 x20_2).f0) ((rd_T51 l0_0 x20_2).f1) ((rd_T51 l0_0 x20_2).f2) _ _ ((rd_T51 l0_0 x20_2).f3) _ _ ((rd_T51 l0_0 x20_2).f4) _ _ ((rd_T51 l0_0 x20_2).f5) true _ (kC HR198_3) HC198_3.out (kC HR198_4) HC198_4.out (kC HR198_5) HC198_5.out A13.out) ?_
               rintro e w38 ⟨rfl, hb⟩
               refine ⟨_, rfl, ?_⟩
               replace BK196 := kb_ BK196 hb
               replace BK199 := kb_ BK199 hb
               replace HB := Aside0.mk (below_step oB hb)
               refine hk_ hK 26 oH (fun hHeld => ?_)
               clear hK K
               refine pu_ 2 27 HT_ ?_
               refine pu_ 3 28 HT_ ?_
               refine pu_ 4 29 HT_ ?_
               refine pu_ 6 31 HT_ ?_
               refine ta_ 5 30 HT_ HW_ hHeld ?_
               refine ta_ 7 32 HT_ HW_ hHeld ?_
               refine pu_ 8 33 HT_ ?_
               refine pu_ 9 34 HT_ ?_
               refine pu_ 10 35 HT_ ?_
               refine pu_ 11 36 HT_ ?_
               refine pu_ 12 37 HT_ ?_
               refine pu_ 13 38 HT_ ?_
               refine pu_ 14 39 HT_ ?_
               refine pu_ 16 41 HT_ ?_
               refine pu_ 17 42 HT_ ?_
               refine pu_ 21 46 HT_ ?_
               refine ta_ 15 40 HT_ HW_ hHeld ?_
               refine pu_ 18 43 HT_ ?_
               refine pu_ 19 44 HT_ ?_
               refine ta_ 20 45 HT_ HW_ hHeld ?_
               refine ta_ 22 47 HT_ HW_ hHeld ?_
               refine pu_ 23 48 HT_ ?_
               refine pu_ 24 49 HT_ ?_
               refine pu_ 25 50 HT_ ?_
               refine dn_ HT_ ?_
               try go_wp2
               go_roundg k2
               case measure => have := HJ1.out; have := HK2.out; omega
               case rel => exact ⟨(wrap64 (x20_2 + 1)), oS, H', ⟨by have := HJ1.out; have := HK2.out; omega⟩, ⟨oF BK196⟩, ⟨oB⟩⟩
             ·cases H
            ·cases H
           ·have H' := Aside0.mk H
            clear H
            have p198 : (0 ≤ (x20_2 : Int)) = True := oT
            have q198 : (x20_2 < (l0_0.length : Int)) = True := oT
            obtain ⟨ad198, A198_3, c198_3, A198_4, c198_4, A198_5, c198_5, e198, hx198_0, hx198_1, hx198_2, hx198_3, hx198_4, hx198_5, hl198_3, hi198_3, hl198_4, hi198_4, hl198_5, hi198_5⟩ := at_T51 HR0_0.out x20_2 oa oa
            cases e198
            replace hx198_0 := cB HB hx198_0
            replace hx198_1 := cB HB hx198_1
            replace hx198_2 := cB HB hx198_2
            replace hx198_3 := cB HB hx198_3
            replace hx198_4 := cB HB hx198_4
            replace hx198_5 := cB HB hx198_5
            have HR198_3 := Aside0.mk hi198_3
            have HC198_3 := Aside0.mk hl198_3
            clear hi198_3 hl198_3
            have HR198_4 := Aside0.mk hi198_4
            have HC198_4 := Aside0.mk hl198_4
            clear hi198_4 hl198_4
            have HR198_5 := Aside0.mk hi198_5
            have HC198_5 := Aside0.mk hl198_5
            clear hi198_5 hl198_5
            try go_wp2_with (first | ((with_reducible refine gate_dst (N := 4) rfl ?_); refine bx_ 4 #[.int .i64 0, .int .i64 0, .int .i64 0, .slice none 0 0, .slice none 0 0, .slice none 0 0] 51 ?_; intro gb199 hg w39 hbox hb; have BK199 := Aside0.mk (hbox); have GW199 := gs_ hg; have NB196_199 := nl_ hg BK196; have NB199_196 := nr_ hg BK196; replace BK196 := kb_ BK196 hb; replace HB := Aside0.mk (below_step oB hb); clear hb hbox hg; have hnb40 := NB199_196.out; have hnc40 := NB196_199.out; obtain ⟨⟨_, _, _, _, _, _⟩, _, _, _, _, _, _⟩ := z6 BK199))
            generalize hW_ : ((((((w39.setCell ⟨gb199, 0, none⟩ (.int .i64 ((rd_T51 l0_0 x20_2).f0))).setCell ⟨gb199, 1, none⟩ (.int .i64 ((rd_T51 l0_0 x20_2).f1))).setCell ⟨gb199, 2, none⟩ (.int .i64 ((rd_T51 l0_0 x20_2).f2))).setCell ⟨gb199, 3, none⟩ (.slice A198_3 ((rd_T51 l0_0 x20_2).f3).length c198_3)).setCell ⟨gb199, 4, none⟩ (.slice A198_4 ((rd_T51 l0_0 x20_2).f4).length c198_4)).setCell ⟨gb199, 5, none⟩ (.slice A198_5 ((rd_T51 l0_0 x20_2).f5).length c198_5)) = w42
            replace BK196 := kw_ hW_ BK196
            replace BK199 := kv_ #[.int .i64 ((rd_T51 l0_0 x20_2).f0), .int .i64 ((rd_T51 l0_0 x20_2).f1), .int .i64 ((rd_T51 l0_0 x20_2).f2), .slice A198_3 ((rd_T51 l0_0 x20_2).f3).length c198_3, .slice A198_4 ((rd_T51 l0_0 x20_2).f4).length c198_4, .slice A198_5 ((rd_T51 l0_0 x20_2).f5).length c198_5] hW_ BK199
            replace HB := hw_ hW_ HB
            clear hW_
            replace BK196 := Aside0.mk (blk_drew BK196.out)
            replace BK199 := Aside0.mk (blk_drew BK199.out)
            replace HB := Aside0.mk (below_drew1 HB.out)
            refine st_ 26 (fun w' => w'.cell? ⟨gb199, 0, none⟩ = some (.int .i64 ((rd_T51 l0_0 x20_2).f0)) ∧ w'.cell? ⟨gb199, 1, none⟩ = some (.int .i64 ((rd_T51 l0_0 x20_2).f1)) ∧ w'.cell? ⟨gb199, 2, none⟩ = some (.int .i64 ((rd_T51 l0_0 x20_2).f2)) ∧ w'.cell? ⟨gb199, 3, none⟩ = some (.slice A198_3 ((rd_T51 l0_0 x20_2).f3).length c198_3) ∧ w'.cell? ⟨gb199, 4, none⟩ = some (.slice A198_4 ((rd_T51 l0_0 x20_2).f4).length c198_4) ∧ w'.cell? ⟨gb199, 5, none⟩ = some (.slice A198_5 ((rd_T51 l0_0 x20_2).f5).length c198_5) ∧ w'.cell? ⟨gb196, 0, none⟩ = some (.slice (some ad198) l0_0.length c0_0) ∧ w'.cell? ⟨gb196, 1, none⟩ = some (.int .i64 a0_1)) impl_TabOk.tab6 impl_TabOk.bits6 oH (fun hHeld HT_ HW_ => ?_)
            generalize w42.drew = w43 at BK196 BK199 HB hHeld ⊢
            refine ta_ 0 25 HT_ HW_ hHeld ?_
            refine on_ 1 26 HT_ (fun K hK => ?_)
            refine gr_ 26 Tryz.func66 (impl_InodeOk.calls k2 ((rd_T51 l0_0 x20_2).f0) ((rd_T51 l0_0 x20_2).f1) ((rd_T51 l0_0 x20_2).f2) _ _ ((rd_T51 l0_0 x20_2).f3) _ _ ((rd_T51 l0_0 x20_2).f4) _ _ ((rd_T51 l0_0 x20_2).f5) true _ (kC HR198_3) HC198_3.out (kC HR198_4) HC198_4.out (kC HR198_5) HC198_5.out A13.out) ?_
            rintro e w44 ⟨rfl, hb⟩
            refine ⟨_, rfl, ?_⟩
            replace BK196 := kb_ BK196 hb
            replace BK199 := kb_ BK199 hb
            replace HB := Aside0.mk (below_step oB hb)
            refine hk_ hK 26 oH (fun hHeld => ?_)
            clear hK K
            refine pu_ 2 27 HT_ ?_
            refine pu_ 3 28 HT_ ?_
            refine pu_ 4 29 HT_ ?_
            refine pu_ 6 31 HT_ ?_
            refine ta_ 5 30 HT_ HW_ hHeld ?_
            refine ta_ 7 32 HT_ HW_ hHeld ?_
            refine pu_ 8 33 HT_ ?_
            refine pu_ 9 34 HT_ ?_
            refine pu_ 10 35 HT_ ?_
            refine pu_ 11 36 HT_ ?_
            refine pu_ 12 37 HT_ ?_
            refine pu_ 13 38 HT_ ?_
            refine pn_ 14 39 HT_ ?_
            refine pn_ 15 40 HT_ ?_
            refine pn_ 16 41 HT_ ?_
            refine pn_ 17 42 HT_ ?_
            refine pn_ 18 43 HT_ ?_
            refine pn_ 19 44 HT_ ?_
            refine pn_ 20 45 HT_ ?_
            refine pn_ 21 46 HT_ ?_
            refine pn_ 22 47 HT_ ?_
            refine pn_ 23 48 HT_ ?_
            refine pu_ 24 49 HT_ ?_
            refine pu_ 25 50 HT_ ?_
            refine dn_ HT_ ?_
            try go_wp2
            go_roundg k2
            case measure => have := HJ1.out; have := HK2.out; omega
            case rel => exact ⟨(wrap64 (x20_2 + 1)), oS, H', ⟨by have := HJ1.out; have := HK2.out; omega⟩, ⟨oF BK196⟩, ⟨oB⟩⟩
         ·obtain rfl := Option.some.inj H
          have p198 : (0 ≤ (x20_2 : Int)) = True := oT
          have q198 : (x20_2 < (l0_0.length : Int)) = True := oT
          obtain ⟨ad198, A198_3, c198_3, A198_4, c198_4, A198_5, c198_5, e198, hx198_0, hx198_1, hx198_2, hx198_3, hx198_4, hx198_5, hl198_3, hi198_3, hl198_4, hi198_4, hl198_5, hi198_5⟩ := at_T51 HR0_0.out x20_2 oa oa
          cases e198
          replace hx198_0 := cB HB hx198_0
          replace hx198_1 := cB HB hx198_1
          replace hx198_2 := cB HB hx198_2
          replace hx198_3 := cB HB hx198_3
          replace hx198_4 := cB HB hx198_4
          replace hx198_5 := cB HB hx198_5
          have HR198_3 := Aside0.mk hi198_3
          have HC198_3 := Aside0.mk hl198_3
          clear hi198_3 hl198_3
          have HR198_4 := Aside0.mk hi198_4
          have HC198_4 := Aside0.mk hl198_4
          clear hi198_4 hl198_4
          have HR198_5 := Aside0.mk hi198_5
          have HC198_5 := Aside0.mk hl198_5
          clear hi198_5 hl198_5
          try go_wp2_with (first | ((with_reducible refine gate_dst (N := 4) rfl ?_); refine bx_ 4 #[.int .i64 0, .int .i64 0, .int .i64 0, .slice none 0 0, .slice none 0 0, .slice none 0 0] 51 ?_; intro gb199 hg w45 hbox hb; have BK199 := Aside0.mk (hbox); have GW199 := gs_ hg; have NB196_199 := nl_ hg BK196; have NB199_196 := nr_ hg BK196; replace BK196 := kb_ BK196 hb; replace HB := Aside0.mk (below_step oB hb); clear hb hbox hg; have hnb46 := NB199_196.out; have hnc46 := NB196_199.out; obtain ⟨⟨_, _, _, _, _, _⟩, _, _, _, _, _, _⟩ := z6 BK199))
          generalize hW_ : ((((((w45.setCell ⟨gb199, 0, none⟩ (.int .i64 ((rd_T51 l0_0 x20_2).f0))).setCell ⟨gb199, 1, none⟩ (.int .i64 ((rd_T51 l0_0 x20_2).f1))).setCell ⟨gb199, 2, none⟩ (.int .i64 ((rd_T51 l0_0 x20_2).f2))).setCell ⟨gb199, 3, none⟩ (.slice A198_3 ((rd_T51 l0_0 x20_2).f3).length c198_3)).setCell ⟨gb199, 4, none⟩ (.slice A198_4 ((rd_T51 l0_0 x20_2).f4).length c198_4)).setCell ⟨gb199, 5, none⟩ (.slice A198_5 ((rd_T51 l0_0 x20_2).f5).length c198_5)) = w48
          replace BK196 := kw_ hW_ BK196
          replace BK199 := kv_ #[.int .i64 ((rd_T51 l0_0 x20_2).f0), .int .i64 ((rd_T51 l0_0 x20_2).f1), .int .i64 ((rd_T51 l0_0 x20_2).f2), .slice A198_3 ((rd_T51 l0_0 x20_2).f3).length c198_3, .slice A198_4 ((rd_T51 l0_0 x20_2).f4).length c198_4, .slice A198_5 ((rd_T51 l0_0 x20_2).f5).length c198_5] hW_ BK199
          replace HB := hw_ hW_ HB
          clear hW_
          replace BK196 := Aside0.mk (blk_drew BK196.out)
          replace BK199 := Aside0.mk (blk_drew BK199.out)
          replace HB := Aside0.mk (below_drew1 HB.out)
          refine st_ 26 (fun w' => w'.cell? ⟨gb199, 0, none⟩ = some (.int .i64 ((rd_T51 l0_0 x20_2).f0)) ∧ w'.cell? ⟨gb199, 1, none⟩ = some (.int .i64 ((rd_T51 l0_0 x20_2).f1)) ∧ w'.cell? ⟨gb199, 2, none⟩ = some (.int .i64 ((rd_T51 l0_0 x20_2).f2)) ∧ w'.cell? ⟨gb199, 3, none⟩ = some (.slice A198_3 ((rd_T51 l0_0 x20_2).f3).length c198_3) ∧ w'.cell? ⟨gb199, 4, none⟩ = some (.slice A198_4 ((rd_T51 l0_0 x20_2).f4).length c198_4) ∧ w'.cell? ⟨gb199, 5, none⟩ = some (.slice A198_5 ((rd_T51 l0_0 x20_2).f5).length c198_5)) impl_TabOk.tab6 impl_TabOk.bits6 oH (fun hHeld HT_ HW_ => ?_)
          generalize w48.drew = w49 at BK196 BK199 HB hHeld ⊢
          refine ta_ 0 25 HT_ HW_ hHeld ?_
          refine on_ 1 26 HT_ (fun K hK => ?_)
          refine gr_ 26 Tryz.func66 (impl_InodeOk.calls k2 ((rd_T51 l0_0 x20_2).f0) ((rd_T51 l0_0 x20_2).f1) ((rd_T51 l0_0 x20_2).f2) _ _ ((rd_T51 l0_0 x20_2).f3) _ _ ((rd_T51 l0_0 x20_2).f4) _ _ ((rd_T51 l0_0 x20_2).f5) false _ (kC HR198_3) HC198_3.out (kC HR198_4) HC198_4.out (kC HR198_5) HC198_5.out A13.out) ?_
          rintro e w50 ⟨rfl, hb⟩
          refine ⟨_, rfl, ?_⟩
          replace BK196 := kb_ BK196 hb
          replace BK199 := kb_ BK199 hb
          replace HB := Aside0.mk (below_step oB hb)
          refine hk_ hK 26 oH (fun hHeld => ?_)
          clear hK K
          refine pu_ 2 27 HT_ ?_
          refine pu_ 3 28 HT_ ?_
          refine pn_ 4 29 HT_ ?_
          refine pn_ 5 30 HT_ ?_
          refine pn_ 6 31 HT_ ?_
          refine pn_ 7 32 HT_ ?_
          refine pn_ 8 33 HT_ ?_
          refine pu_ 9 34 HT_ ?_
          refine pu_ 10 35 HT_ ?_
          refine pn_ 11 36 HT_ ?_
          refine pn_ 12 37 HT_ ?_
          refine pn_ 13 38 HT_ ?_
          refine pn_ 14 39 HT_ ?_
          refine pn_ 15 40 HT_ ?_
          refine pn_ 16 41 HT_ ?_
          refine pn_ 17 42 HT_ ?_
          refine pn_ 18 43 HT_ ?_
          refine pn_ 19 44 HT_ ?_
          refine pn_ 20 45 HT_ ?_
          refine pn_ 21 46 HT_ ?_
          refine pn_ 22 47 HT_ ?_
          refine pn_ 23 48 HT_ ?_
          refine pn_ 24 49 HT_ ?_
          refine pu_ 25 50 HT_ ?_
          refine dn_ HT_ ?_
          try go_wp2
          go_ret
          exact ⟨oE, oB⟩
        ·cases H
       ·cases H
      ·replace H := bA H
       obtain ⟨⟨t202, t203, t204, t205, t208, t211, t214⟩, A51, H⟩ := H
       try dsimp only at H
       replace H := itB H
       rcases H with ⟨rfl, H⟩ | ⟨rfl, H⟩
       ·obtain rfl := Option.some.inj H
        obtain ⟨⟨_, _⟩, _, _⟩ := z2 BK196
        go_wp2_with (first | ((with_reducible refine gate_callee (f := 42) rfl ?_); refine gl_ 54 Tryz.func42 (impl_InodeAt.calls k2 _ _ l0_0 a0_1 1 t202 t203 t204 t205 t208 t211 true _ (kC HR0_0) HC0_0.out A51.out) ?_; rintro e w54 ⟨v206, v209, v212, rfl, ho0, ho1, ho2, hb⟩; refine ⟨_, rfl, ?_⟩; have HO207 := Aside0.mk (Kd.R_lower ho0 (below_size oB)); have HO210 := Aside0.mk (Kd.R_lower ho1 (below_size oB)); have HO213 := Aside0.mk (Kd.R_lower ho2 (below_size oB)); replace BK196 := kb_ BK196 hb; replace HB := Aside0.mk (below_step oB hb); (try clear ho1); (try clear ho2)) | ((with_reducible refine gate_dst (N := 5) rfl ?_); refine bx_ 5 #[.int .i64 0, .int .i64 0, .int .i64 0, .slice none 0 0, .slice none 0 0, .slice none 0 0] 51 ?_; intro gb215 hg w55 hbox hb; have BK215 := Aside0.mk (hbox); have GW215 := gs_ hg; have NB196_215 := nl_ hg BK196; have NB215_196 := nr_ hg BK196; replace HO207 := kr_ HO207 hb; replace HO210 := kr_ HO210 hb; replace HO213 := kr_ HO213 hb; replace BK196 := kb_ BK196 hb; replace HB := Aside0.mk (below_step oB hb); clear hb hbox hg; have hnb56 := NB215_196.out; have hnc56 := NB196_215.out; obtain ⟨⟨_, _, _, _, _, _⟩, _, _, _, _, _, _⟩ := z6 BK215; obtain ⟨Ao58, co58, eo58⟩ := Kd.R_slice HO207.out; subst eo58; obtain ⟨Ao59, co59, eo59⟩ := Kd.R_slice HO210.out; subst eo59; obtain ⟨Ao60, co60, eo60⟩ := Kd.R_slice HO213.out; subst eo60))
        go_ret
        exact ⟨oE, oB⟩
       ·obtain rfl := Option.some.inj H
        obtain ⟨⟨_, _⟩, _, _⟩ := z2 BK196
        go_wp2_with (first | ((with_reducible refine gate_callee (f := 42) rfl ?_); refine gl_ 54 Tryz.func42 (impl_InodeAt.calls k2 _ _ l0_0 a0_1 1 t202 t203 t204 t205 t208 t211 false _ (kC HR0_0) HC0_0.out A51.out) ?_; rintro e w62 ⟨v206, v209, v212, rfl, ho0, ho1, ho2, hb⟩; refine ⟨_, rfl, ?_⟩; have HO207 := Aside0.mk (Kd.R_lower ho0 (below_size oB)); have HO210 := Aside0.mk (Kd.R_lower ho1 (below_size oB)); have HO213 := Aside0.mk (Kd.R_lower ho2 (below_size oB)); replace BK196 := kb_ BK196 hb; replace HB := Aside0.mk (below_step oB hb); (try clear ho1); (try clear ho2)) | ((with_reducible refine gate_dst (N := 5) rfl ?_); refine bx_ 5 #[.int .i64 0, .int .i64 0, .int .i64 0, .slice none 0 0, .slice none 0 0, .slice none 0 0] 51 ?_; intro gb215 hg w63 hbox hb; have BK215 := Aside0.mk (hbox); have GW215 := gs_ hg; have NB196_215 := nl_ hg BK196; have NB215_196 := nr_ hg BK196; replace HO207 := kr_ HO207 hb; replace HO210 := kr_ HO210 hb; replace HO213 := kr_ HO213 hb; replace BK196 := kb_ BK196 hb; replace HB := Aside0.mk (below_step oB hb); clear hb hbox hg; have hnb64 := NB215_196.out; have hnc64 := NB196_215.out; obtain ⟨⟨_, _, _, _, _, _⟩, _, _, _, _, _, _⟩ := z6 BK215; obtain ⟨Ao66, co66, eo66⟩ := Kd.R_slice HO207.out; subst eo66; obtain ⟨Ao67, co67, eo67⟩ := Kd.R_slice HO210.out; subst eo67; obtain ⟨Ao68, co68, eo68⟩ := Kd.R_slice HO213.out; subst eo68))
        go_ret
        exact ⟨oE, oB⟩

/-! ### slices_Contains_int_int: function 67 -/
theorem rSpotC {α : Type} {d : Kd α} {e base n c : Nat} {ok : Nat → Prop} {w : World} {A : Option Addr} {xs : List α} (h : d.R e w base ok (.slice A n c) xs) : ∀ ad, A = some ad → 0 < xs.length → ad.spot = none := by
 intro ad hA _
 subst hA
 obtain ⟨g, rfl⟩ := Kd.R_head h
 rfl
def slices_Contains_int_int.f (l : List Int) (x : Int) : Option Bool := if l.length ≤ 9223372036854775807 then some (l.contains x) else none
theorem slices_Contains_int_int.calls (A0 : Option Addr) (c0 : Nat) (l0 : List Int) (a1 : Int) (r : Bool) (w : World) (hr0 : Kd.C (Kd.int .i64) w A0 l0.length l0) (hc0 : l0.length ≤ c0) (h : slices_Contains_int_int.f l0 a1 = some r) (hA : ∀ ad, A0 = some ad → 0 < l0.length → ad.spot = none := by first | exact rSpotC (by first | (with_reducible assumption) | exact Aside0.out (by with_reducible assumption))) :
  Calls Tryz.prog 67 #[.slice A0 l0.length c0, .int .i64 a1] w fun e w' => e = .returned (.bool r) ∧ Below w.heap.size w w' := by
 unfold slices_Contains_int_int.f at h
 split at h
 case isFalse => cases h
 case isTrue hl =>
 obtain rfl := Option.some.inj h
 by_cases h0 : l0.length = 0
 ·obtain rfl := List.eq_nil_of_length_eq_zero h0
  exact (Any.slices_Contains_int_empty Tryz.lays107 A0 c0 a1 w).mono fun e w' ⟨he, hw⟩ => ⟨he, hw ▸ Below.refl _ _⟩
 ·obtain ⟨ad, e0, _⟩ := Kd.at_int hr0 0 (by omega) (by omega)
  subst e0
  have hsp := hA ad rfl (by omega)
  obtain ⟨bk, o, sp⟩ := ad
  have hsp : sp = none := hsp
  subst hsp
  refine (Any.slices_Contains_int Tryz.lays107 bk o l0.length c0 l0 a1 w (Nat.le_refl _) hl (fun j hj => ?_)).mono fun e w' ⟨he, hw⟩ => ⟨by rw [he, List.take_length], hw ▸ Below.refl _ _⟩
  obtain ⟨ad', e', hx⟩ := Kd.at_int hr0 (j : Int) (by omega) (by omega)
  injection e' with e'
  subst e'
  rw [Int.toNat_natCast, Addr.add_lit] at hx
  rw [hx]
  simp [rd]
/-! ### slices_Sort_int_int: function 68 -/
def sortI (l : List Int) : List Int := l.mergeSort fun x y => decide (x ≤ y)
theorem sortI_length (l : List Int) : (sortI l).length = l.length := List.length_mergeSort ..
/-- slices.Sort of a row of the call's own: it is in order behind it. -/
theorem sortOwn.calls (A : Option Addr) (c b0 : Nat) (ok : Nat → Prop) (l : List Int) (w : World) (ho : Kd.R (Kd.int .i64) 3 w b0 ok (.slice A l.length c) l) (hl : l.length < 4611686018427387904) :
  Calls Tryz.prog 68 #[.slice A l.length c] w fun e w' => e = .returned (.tuple #[]) ∧ Kd.R (Kd.int .i64) 3 w' b0 ok (.slice A l.length c) (sortI l) ∧ w.grownBy w' (Value.slice A l.length c).ownBlock := by
 have ho' := ho
 obtain ⟨hok, inner, ⟨hil, hown⟩, hrep⟩ := ho
 rcases hown with ⟨he, h0⟩ | ⟨g, cap, cur, he, hbg, hh, hnc, hcm, hcs, hin⟩
 ·obtain rfl := List.eq_nil_of_length_eq_zero h0
  refine (Any.slices_Sort_int_none Tryz.lays189 A c w).mono fun e w' ⟨he, hw⟩ => ⟨he, ?_, ?_⟩
  ·subst hw; rw [show sortI [] = [] from List.eq_nil_of_length_eq_zero (by rw [sortI_length]; rfl)]; exact ho'
  ·subst hw; exact ⟨rfl, rfl, rfl, Nat.le_refl _, fun _ _ _ => rfl⟩
 ·injection he with ha _ hc
  subst ha; subst hc
  rw [show (Kd.int .i64).sz = 1 from rfl] at hil hcs hin hrep
  have hen := Kd.reps_encs (enc := Value.int .i64) hrep
  rw [hen, Nat.mul_one] at hin
  have hgw : g < w.heap.size := blk_lt hh
  refine (Any.slices_Sort_int Tryz.lays189 g 0 c l w (holds_of_blockI hh hin) hgw hl).mono fun e w' ⟨he, n, os, hw⟩ => ?_
  subst hw
  refine ⟨he, ⟨fun k hk => hok k hk, (sortI l).map (Value.int .i64), ?_, ?_⟩, grownBy_sortedI _⟩
  ·rw [sortI_length]
   exact ownsRow_sortedI (ss := l) (sortI_length l) hbg hh hnc hcm hcs
  ·exact Kd.reps_scalar (enc := Value.int .i64) (sortI l)
/-! ### impl_Reached: function 39 -/
mutual
def impl_Reached.l0 : Nat → List Int → List Int → List (S51) → Int → Option (List Int)
 | 0, _, _, _, _ => none
 | k + 1, x3, x4, x217000, x217001 => if (x4.length : Int) > 0 then (if 0 < (x4.length : Int) then (if 1 ≤ (x4.length : Int) then ((some (x4.drop (1 : Int).toNat : List Int)).bind fun y224 => ((impl_InodeAt.f k x217000 x217001 (rd x4 0)).bind fun bt227 => (if bt227.2.2.2.2.2.2 = true then ((slices_Contains_int_int.f x3 (rd x4 0)).bind fun t241 => (impl_Reached.j1 k x3 y224 (rd x4 0) t241 x217000 x217001 bt227.1 bt227.2.1 bt227.2.2.1 bt227.2.2.2.1 bt227.2.2.2.2.1 bt227.2.2.2.2.2.1)) else (impl_Reached.j1 k x3 y224 (rd x4 0) true x217000 x217001 bt227.1 bt227.2.1 bt227.2.2.1 bt227.2.2.2.1 bt227.2.2.2.2.1 bt227.2.2.2.2.2.1)))) else (none)) else (none)) else (if x3.length < 4611686018427387904 then some (sortI x3) else none)
def impl_Reached.j1 : Nat → List Int → List Int → Int → Bool → List (S51) → Int → Int → Int → Int → List Int → List (S65) → List (S71) → Option (List Int)
 | 0, _, _, _, _, _, _, _, _, _, _, _, _ => none
 | k + 1, x3, x4, x5, x32, x217000, x217001, x241000, x241001, x241002, x241003, x241004, x241005 => if x32 = true then (impl_Reached.l0 k x3 x4 x217000 x217001) else (if x3.length < 17592186044416 then ((some (x3 ++ [x5] : List Int)).bind fun y242 => (if x241001 = 2 then (impl_Reached.l1 k y242 x4 x241004 (x241004.length : Int) 0 x217000 x217001) else (impl_Reached.l0 k y242 x4 x217000 x217001))) else (none))
def impl_Reached.l1 : Nat → List Int → List Int → List (S65) → Int → Int → List (S51) → Int → Option (List Int)
 | 0, _, _, _, _, _, _, _ => none
 | k + 1, x3, x4, x41, x42, x43, x217000, x217001 => if x43 < x42 then (if 0 ≤ x43 then (if x43 < (x41.length : Int) then (if x4.length < 17592186044416 then (impl_Reached.l1 k x3 (x4 ++ [(rd_T65 x41 x43).f1]) x41 x42 (wrap64 (x43 + 1)) x217000 x217001) else (none)) else (none)) else (none)) else (impl_Reached.l0 k x3 x4 x217000 x217001)
end
def impl_Reached.f (k : Nat) (l0_0 : List (S51)) (a0_1 : Int) : Option (List Int) := impl_Reached.l0 k (([] : List Int)) (([1] : List Int)) l0_0 a0_1
set_option maxHeartbeats 8000000 in
set_option maxRecDepth 100000 in
theorem impl_Reached.calls (k : Nat) (A0_0 : Option Addr) (c0_0 : Nat) (l0_0 : List (S51)) (a0_1 : Int) (r : List Int) (w : World) (hr0_0 : Kd.C k51 w A0_0 l0_0.length l0_0) (hc0_0 : l0_0.length ≤ c0_0) (h : impl_Reached.f k l0_0 a0_1 = some r) :
  Calls Tryz.prog 39 #[.agg #[.slice A0_0 l0_0.length c0_0, .int .i64 a0_1]] w fun e w' => ∃ v0_ : Value, e = .returned (v0_) ∧ Kd.R (Kd.int .i64) 3 w' w.heap.size (fun _ => True) v0_ r ∧ Below w.heap.size w w' := by
 have hu26 := Tryz.underlying26
 have hu51 := Tryz.underlying51
 have hu65 := Tryz.underlying65
 have HR0_0 := Aside0.mk hr0_0
 have HC0_0 := Aside0.mk hc0_0
 clear hr0_0 hc0_0
 have HB := Aside0.mk (Below.refl w.heap.size w)
 unfold impl_Reached.f at h
 have H := h
 clear h
 obtain ⟨y217, hy217⟩ : ∃ y_ : List Int, y_ = (([] : List Int)) := ⟨_, rfl⟩
 replace H : (impl_Reached.l0 k y217 (([1] : List Int)) l0_0 a0_1) = some r := by first | (rw [hy217]; with_reducible exact H) | (have H2_ := (Option.bind_some _ _).symm.trans H; rw [hy217]; with_reducible exact H2_) | (have H2_ := (Option.bind_some _ _).symm.trans H; with_reducible exact H2_) | with_reducible exact H | (rw [hy217]; exact H) | exact H
 have Ny217 := Aside0.mk hy217
 clear hy217
 obtain ⟨y220, hy220⟩ : ∃ y_ : List Int, y_ = (([1] : List Int)) := ⟨_, rfl⟩
 replace H : (impl_Reached.l0 k y217 y220 l0_0 a0_1) = some r := by first | (rw [hy220]; with_reducible exact H) | (have H2_ := (Option.bind_some _ _).symm.trans H; rw [hy220]; with_reducible exact H2_) | (have H2_ := (Option.bind_some _ _).symm.trans H; with_reducible exact H2_) | with_reducible exact H | (rw [hy220]; exact H) | exact H
 have Ny220 := Aside0.mk hy220
 clear hy220
 have H' := Aside0.mk H
 clear H
 go_enter Tryz.func39, Tryz.ntmps39
 go_wp2_with (first | ((with_reducible refine gate_dst (N := 1) rfl ?_); refine bx_ 1 #[.slice A0_0 l0_0.length c0_0, .int .i64 a0_1] 26 ?_; intro gb216 hg w2 hbox hb; have BK216 := Aside0.mk (hbox); have GW216 := gs_ hg; replace HB := Aside0.mk (below_step oB hb); clear hb hbox hg) | ((with_reducible refine gate_dst (N := 10) rfl ?_); refine Kd.R_lit (Kd.int .i64) _ 3 ?hg (N := 10) ?hd (xs := ([] : List Int)) (inner := []) (ok := fun _ => True) (okp := fun _ => True) ?hr ?hp (fun _ hk => hk) trivial (Below.refl _ _) (Nat.le_refl _) (by simp) ?_; (case hd => rfl); (case hg => rfl); (case hr => first | (go_simp; done) | (go_simp; rfl)); (case hp => exact (Reps.none _ _)); intro v218 w3 ho4 hb hg_ hnew_; clear hg_ hnew_; (first | rw [← Ny217.out] at ho4 | (simp only [Int.reduceToNat] at ho4; rw [← Ny217.out] at ho4)); have HO219 := Aside0.mk (Kd.R_lower ho4 (below_size oB)); replace BK216 := kb_ BK216 hb; replace HB := Aside0.mk (below_step oB hb); clear hb ho4) | ((with_reducible refine gate_dst (N := 11) rfl ?_); refine Kd.R_lit (Kd.int .i64) _ 3 ?hg (N := 11) ?hd (xs := ([1] : List Int)) (inner := [.int .i64 1]) (ok := fun _ => True) (okp := fun _ => True) ?hr ?hp (fun _ hk => hk) trivial (Below.refl _ _) (Nat.le_refl _) (by simp) ?_; (case hd => rfl); (case hg => rfl); (case hr => first | (go_simp; done) | (go_simp; rfl)); (case hp => exact (Reps.one (show Kd.M (Kd.int .i64) _ _ _ 1 [.int .i64 1] from rfl) (Reps.none _ _))); intro v221 w5 ho6 hb hg_ hnew_; clear hg_ hnew_; (first | rw [← Ny220.out] at ho6 | (simp only [Int.reduceToNat] at ho6; rw [← Ny220.out] at ho6)); have HO222 := Aside0.mk (Kd.R_lower (Kd.R_new' ho6 (kl_ HO219)) (below_size oB)); replace HO219 := ke_ HO219 ho6 hb; replace BK216 := kb_ BK216 hb; replace HB := Aside0.mk (below_step oB hb); clear hb ho6))
 go_loopg [3, 4] k (fun kq v3 v4 w' => ∃ (x3_1 : List Int) (x4_1 : List Int), Aside0 (impl_Reached.l0 kq x3_1 x4_1 l0_0 a0_1 = some r) ∧ Aside0 (kq ≤ k) ∧ Aside0 (Kd.R (Kd.int .i64) 3 w' w.heap.size (fun k_ => some k_ ≠ (v4 : Value).ownBlock) v3 x3_1) ∧ Aside0 (Kd.Q (Kd.int .i64) 3 w' w.heap.size (fun k_ => some k_ ≠ (v3 : Value).ownBlock) v4 x4_1) ∧ Aside0 (w'.heap[gb216]? = some (.cells #[(.slice A0_0 l0_0.length c0_0), .int .i64 a0_1] 26 (0, 0))) ∧ Aside0 (Below w.heap.size w w'))
 case atStart => exact ⟨(y217), (y220), H', ⟨Nat.le_refl _⟩, ⟨by (with_reducible repeat (first | apply Kd.R_alloc | apply Kd.R_drewN | apply Kd.R_drew)); exact Kd.R_mono HO219.out (fun _ hk => hk.2)⟩, ⟨Kd.Q_of_R (by (with_reducible repeat (first | apply Kd.R_alloc | apply Kd.R_drewN | apply Kd.R_drew)); exact Kd.R_mono HO222.out (fun _ hk => hk.2))⟩, ⟨oF BK216⟩, ⟨oB⟩⟩
 case round =>
  clear H'
  obtain ⟨x3_1, x4_1, HA, HK1, HO_3, HO_4, BK216, HB⟩ := hrel
  cases gk with
  | zero => exact absurd HA.out (by simp [impl_Reached.l0])
  | succ k1 =>
   have H := HA.out
   clear HA
   simp only [impl_Reached.l0] at H
   by_cases c7 : (x4_1.length : Int) > 0
   ·rw [if_pos c7] at H
    have c7b0 : decide (0 < (x4_1.length : Int)) = true := decide_eq_true c7
    have c7b1 : decide (0 < x4_1.length) = true := decide_eq_true (by omega)
    clear c7
    by_cases c8 : 0 < (x4_1.length : Int)
    ·rw [if_pos c8] at H
     have c8b0 : decide (0 < (x4_1.length : Int)) = true := decide_eq_true c8
     have c8b1 : decide (0 < x4_1.length) = true := decide_eq_true (by omega)
     clear c8
     by_cases c9 : 1 ≤ (x4_1.length : Int)
     ·rw [if_pos c9] at H
      have c9b0 := eq_true c9
      have c9b1 : decide (1 ≤ (x4_1.length : Int)) = true := decide_eq_true c9
      clear c9
      obtain ⟨y224, hy224⟩ : ∃ y_ : List Int, y_ = (x4_1.drop (1 : Int).toNat) := ⟨_, rfl⟩
      replace H : ((impl_InodeAt.f k1 l0_0 a0_1 (rd x4_1 0)).bind fun bt227 => (if bt227.2.2.2.2.2.2 = true then ((slices_Contains_int_int.f x3_1 (rd x4_1 0)).bind fun t241 => (impl_Reached.j1 k1 x3_1 y224 (rd x4_1 0) t241 l0_0 a0_1 bt227.1 bt227.2.1 bt227.2.2.1 bt227.2.2.2.1 bt227.2.2.2.2.1 bt227.2.2.2.2.2.1)) else (impl_Reached.j1 k1 x3_1 y224 (rd x4_1 0) true l0_0 a0_1 bt227.1 bt227.2.1 bt227.2.2.1 bt227.2.2.2.1 bt227.2.2.2.2.1 bt227.2.2.2.2.2.1))) = some r := by first | (rw [hy224]; with_reducible exact H) | (have H2_ := (Option.bind_some _ _).symm.trans H; rw [hy224]; with_reducible exact H2_) | (have H2_ := (Option.bind_some _ _).symm.trans H; with_reducible exact H2_) | with_reducible exact H | (rw [hy224]; exact H) | exact H
      have Ny224 := Aside0.mk hy224
      clear hy224
      replace H := bA H
      obtain ⟨⟨t227, t228, t229, t230, t233, t236, t239⟩, A10, H⟩ := H
      try dsimp only at H
      have HC11 := Aside0.mk H
      clear H
      obtain ⟨Ao12, co12, eo12, _⟩ := Kd.Q_slice HO_4.out
      subst eo12
      have p223 : 0 ≤ (0 : Int) := (by omega)
      have q223 : 0 < (x4_1.length : Int) := oa
      obtain ⟨ad223, e223, hx223_0⟩ := Kd.at_int (Kd.Q_reads' HO_4.out).2.2 0 p223 q223
      cases e223
      have qi223 : (0 < x4_1.length) = True := eq_true (by omega)
      (try rw [show ((0 : Int)).toNat = 0 from rfl] at hx223_0)
      (try rw [Addr.add_zero'] at hx223_0)
      replace p223 := eq_true p223
      replace q223 := eq_true q223
      have q13 : (1 : Int) ≤ ((x4_1.length : Int) : Int) := oa
      obtain ⟨i013, hi013, _, hsz13, _⟩ := info_parts info3
      have hcut13 := cut_from (P := Tryz.prog) 61 3 .i64 Tryz.underlying61 hi013 1 hsz13 (some ad223) x4_1.length co12 1 (by omega) q13
      have hr13 := Kd.Q_drop (k := (1 : Int).toNat) HO_4.out (by omega)
      obtain ⟨A13, hA13⟩ : ∃ A1, A1 = (if co12 = (1 : Int).toNat then (some ad223) else ((some ad223) : Option Addr).map (·.add ((1 : Int).toNat * 1))) := ⟨_, rfl⟩
      obtain ⟨c13, hc13⟩ : ∃ c1, c1 = co12 - (1 : Int).toNat := ⟨_, rfl⟩
      have hy13 : y224.length = x4_1.length - (1 : Int).toNat := (by rw [Ny224.out, List.length_drop])
      rw [← Ny224.out] at hr13
      rw [← hy13, ← hA13, ← hc13] at hcut13
      replace hr13 : Kd.Q (Kd.int .i64) 3 wr w.heap.size (fun k_ => some k_ ≠ (u3 : Value).ownBlock) (.slice A13 y224.length c13) y224 := (by rw [hA13, hc13, hy13]; exact hr13)
      have HE13 : Aside0 ((Value.slice A13 y224.length c13).ownBlock = (.slice (some ad223) x4_1.length co12 : Value).ownBlock) := ⟨by rw [hA13]; split <;> (cases ((some ad223) : Option Addr) <;> rfl)⟩
      clear hy13 hi013 hsz13 HO_4 hA13 hc13
      have HO226 := Aside0.mk hr13
      clear hr13
      replace q13 := eq_true q13
      have n_ := Aside0.mk (Kd.R_mono (ok' := fun k_ => some k_ ≠ (.slice A13 y224.length c13 : Value).ownBlock) HO_3.out (fun k_ hk => (by rw [HE13.out]; exact hk)))
      clear HO_3
      have HO_3 := n_
      clear n_
      obtain ⟨⟨_, _⟩, _, _⟩ := z2 BK216
      go_upto_region 7 with (first | ((with_reducible refine gate_callee (f := 42) rfl ?_); refine gl_ 23 Tryz.func42 (impl_InodeAt.calls k1 _ _ l0_0 a0_1 (rd x4_1 0) t227 t228 t229 t230 t233 t236 t239 _ (kC HR0_0) HC0_0.out A10.out) ?_; rintro e w15 ⟨v231, v234, v237, rfl, ho0, ho1, ho2, hb⟩; refine ⟨_, rfl, ?_⟩; have HO232 := Aside0.mk (Kd.R_lower ho0 (below_size oB)); have HO235 := Aside0.mk (Kd.R_lower ho1 (below_size oB)); have HO238 := Aside0.mk (Kd.R_lower ho2 (below_size oB)); replace HO_3 := kr_ HO_3 hb; replace HO226 := Aside0.mk (Kd.Q_below (by (with_reducible repeat (first | apply Kd.Q_alloc | apply Kd.Q_drewN | apply Kd.Q_drew)); exact HO226.out) hb); replace BK216 := kb_ BK216 hb; replace HB := Aside0.mk (below_step oB hb); (try clear ho1); (try clear ho2)) | ((with_reducible refine gate_dst (N := 6) rfl ?_); refine bx_ 6 #[.int .i64 0, .int .i64 0, .int .i64 0, .slice none 0 0, .slice none 0 0, .slice none 0 0] 51 ?_; intro gb240 hg w16 hbox hb; have BK240 := Aside0.mk (hbox); have GW240 := gs_ hg; have NB216_240 := nl_ hg BK216; have NB240_216 := nr_ hg BK216; replace HO_3 := kr_ HO_3 hb; replace HO226 := Aside0.mk (Kd.Q_below (by (with_reducible repeat (first | apply Kd.Q_alloc | apply Kd.Q_drewN | apply Kd.Q_drew)); exact HO226.out) hb); replace HO232 := kr_ HO232 hb; replace HO235 := kr_ HO235 hb; replace HO238 := kr_ HO238 hb; replace BK216 := kb_ BK216 hb; replace HB := Aside0.mk (below_step oB hb); clear hb hbox hg; have hnb17 := NB240_216.out; have hnc17 := NB216_240.out; obtain ⟨⟨_, _, _, _, _, _⟩, _, _, _, _, _, _⟩ := z6 BK240; obtain ⟨Ao19, co19, eo19⟩ := Kd.R_slice HO232.out; subst eo19; obtain ⟨Ao20, co20, eo20⟩ := Kd.R_slice HO235.out; subst eo20; obtain ⟨Ao21, co21, eo21⟩ := Kd.R_slice HO238.out; subst eo21))
      (try simp only [Act.put, List.setIfInBounds_toArray, List.set_cons_zero, List.set_cons_succ])
      go_cut [32] (fun v32 wc => ∃ (kq : Nat) (x32_10 : Bool), v32 = .bool x32_10 ∧ Aside0 (impl_Reached.j1 kq x3_1 y224 (rd x4_1 0) x32_10 l0_0 a0_1 t227 t228 t229 t230 t233 t236 = some r) ∧ Aside0 (kq ≤ k1) ∧ Aside0 (Kd.R (Kd.int .i64) 3 wc w.heap.size (fun k_ => some k_ ≠ ((.slice A13 y224.length c13) : Value).ownBlock) u3 x3_1) ∧ Aside0 (Kd.Q (Kd.int .i64) 3 wc w.heap.size (fun k_ => some k_ ≠ (u3 : Value).ownBlock) (.slice A13 y224.length c13) y224) ∧ Aside0 (Kd.R (Kd.int .u8) 5 wc w.heap.size (fun _ => True) (.slice Ao19 t230.length co19) t230) ∧ Aside0 (Kd.R k65 65 wc w.heap.size (fun _ => True) (.slice Ao20 t233.length co20) t233) ∧ Aside0 (Kd.R k71 71 wc w.heap.size (fun _ => True) (.slice Ao21 t236.length co21) t236) ∧ Aside0 (wc.heap[gb216]? = some (.cells #[(.slice A0_0 l0_0.length c0_0), .int .i64 a0_1] 26 (0, 0))) ∧ Aside0 (wc.heap[gb240]? = some (.cells #[.int .i64 t227, .int .i64 t228, .int .i64 t229, (.slice Ao19 t230.length co19), (.slice Ao20 t233.length co20), (.slice Ao21 t236.length co21)] 51 (0, 0))) ∧ Aside0 (Below w.heap.size w wc))
      case first =>
       have H := HC11.out
       clear HC11
       replace H := itB H
       rcases H with ⟨rfl, H⟩ | ⟨rfl, H⟩
       ·replace H := bA H
        obtain ⟨t241, A23, H⟩ := H
        try dsimp only at H
        have H' := Aside0.mk H
        clear H
        obtain ⟨Ao24, co24, eo24⟩ := Kd.R_slice HO_3.out
        subst eo24
        go_wp2_with (first | (go_at_call 67; (with_reducible refine (slices_Contains_int_int.calls _ _ x3_1 (rd x4_1 0) t241 _ ?side1 (ko HO_3) A23.out).mono ?_); (case side1 => refine (Kd.R_reads' (e := 3) (base := w.heap.size) (ok := fun k_ => some k_ ≠ (.slice A13 y224.length c13 : Value).ownBlock) (n := x3_1.length) (c := co24) ?_).2.2; exact (by (with_reducible repeat (first | apply Kd.R_alloc | apply Kd.R_drewN | apply Kd.R_drew)); exact (Kd.R_mono (Kd.R_far (p := ⟨gb240, 5, none⟩) (Kd.R_far (p := ⟨gb240, 4, none⟩) (Kd.R_far (p := ⟨gb240, 3, none⟩) (Kd.R_far (p := ⟨gb240, 2, none⟩) (Kd.R_far (p := ⟨gb240, 1, none⟩) (Kd.R_far (p := ⟨gb240, 0, none⟩) (Kd.R_types HO_3.out BK240.out (by decide)) (fun _ hk => hk.2) (.int .i64 t227)) (fun _ hk => hk.2) (.int .i64 t228)) (fun _ hk => hk.2) (.int .i64 t229)) (fun _ hk => hk.2) (.slice Ao19 t230.length co19)) (fun _ hk => hk.2) (.slice Ao20 t233.length co20)) (fun _ hk => hk.2) (.slice Ao21 t236.length co21)) (fun _ h_ => h_.1)))); rintro e w25 ⟨rfl, hb⟩; replace HO_3 := Aside0.mk (Kd.R_below (by (with_reducible repeat (first | apply Kd.R_alloc | apply Kd.R_drewN | apply Kd.R_drew)); exact (Kd.R_mono (Kd.R_far (p := ⟨gb240, 5, none⟩) (Kd.R_far (p := ⟨gb240, 4, none⟩) (Kd.R_far (p := ⟨gb240, 3, none⟩) (Kd.R_far (p := ⟨gb240, 2, none⟩) (Kd.R_far (p := ⟨gb240, 1, none⟩) (Kd.R_far (p := ⟨gb240, 0, none⟩) (Kd.R_types HO_3.out BK240.out (by decide)) (fun _ hk => hk.2) (.int .i64 t227)) (fun _ hk => hk.2) (.int .i64 t228)) (fun _ hk => hk.2) (.int .i64 t229)) (fun _ hk => hk.2) (.slice Ao19 t230.length co19)) (fun _ hk => hk.2) (.slice Ao20 t233.length co20)) (fun _ hk => hk.2) (.slice Ao21 t236.length co21)) (fun _ h_ => h_.1))) hb); replace HO226 := Aside0.mk (Kd.Q_below (by (with_reducible repeat (first | apply Kd.Q_alloc | apply Kd.Q_drewN | apply Kd.Q_drew)); exact (Kd.Q_mono (Kd.Q_far (p := ⟨gb240, 5, none⟩) (Kd.Q_far (p := ⟨gb240, 4, none⟩) (Kd.Q_far (p := ⟨gb240, 3, none⟩) (Kd.Q_far (p := ⟨gb240, 2, none⟩) (Kd.Q_far (p := ⟨gb240, 1, none⟩) (Kd.Q_far (p := ⟨gb240, 0, none⟩) (Kd.Q_types HO226.out BK240.out (by decide)) (fun _ hk => hk.2) (.int .i64 t227)) (fun _ hk => hk.2) (.int .i64 t228)) (fun _ hk => hk.2) (.int .i64 t229)) (fun _ hk => hk.2) (.slice Ao19 t230.length co19)) (fun _ hk => hk.2) (.slice Ao20 t233.length co20)) (fun _ hk => hk.2) (.slice Ao21 t236.length co21)) (fun _ h_ => h_.1))) hb); replace HO232 := Aside0.mk (Kd.R_below (by (with_reducible repeat (first | apply Kd.R_alloc | apply Kd.R_drewN | apply Kd.R_drew)); exact (Kd.R_mono (Kd.R_far (p := ⟨gb240, 5, none⟩) (Kd.R_far (p := ⟨gb240, 4, none⟩) (Kd.R_far (p := ⟨gb240, 3, none⟩) (Kd.R_far (p := ⟨gb240, 2, none⟩) (Kd.R_far (p := ⟨gb240, 1, none⟩) (Kd.R_far (p := ⟨gb240, 0, none⟩) (Kd.R_types HO232.out BK240.out (by decide)) (fun _ hk => hk.2) (.int .i64 t227)) (fun _ hk => hk.2) (.int .i64 t228)) (fun _ hk => hk.2) (.int .i64 t229)) (fun _ hk => hk.2) (.slice Ao19 t230.length co19)) (fun _ hk => hk.2) (.slice Ao20 t233.length co20)) (fun _ hk => hk.2) (.slice Ao21 t236.length co21)) (fun _ h_ => h_.1))) hb); replace HO235 := Aside0.mk (Kd.R_below (by (with_reducible repeat (first | apply Kd.R_alloc | apply Kd.R_drewN | apply Kd.R_drew)); exact (Kd.R_mono (Kd.R_far (p := ⟨gb240, 5, none⟩) (Kd.R_far (p := ⟨gb240, 4, none⟩) (Kd.R_far (p := ⟨gb240, 3, none⟩) (Kd.R_far (p := ⟨gb240, 2, none⟩) (Kd.R_far (p := ⟨gb240, 1, none⟩) (Kd.R_far (p := ⟨gb240, 0, none⟩) (Kd.R_types HO235.out BK240.out (by decide)) (fun _ hk => hk.2) (.int .i64 t227)) (fun _ hk => hk.2) (.int .i64 t228)) (fun _ hk => hk.2) (.int .i64 t229)) (fun _ hk => hk.2) (.slice Ao19 t230.length co19)) (fun _ hk => hk.2) (.slice Ao20 t233.length co20)) (fun _ hk => hk.2) (.slice Ao21 t236.length co21)) (fun _ h_ => h_.1))) hb); replace HO238 := Aside0.mk (Kd.R_below (by (with_reducible repeat (first | apply Kd.R_alloc | apply Kd.R_drewN | apply Kd.R_drew)); exact (Kd.R_mono (Kd.R_far (p := ⟨gb240, 5, none⟩) (Kd.R_far (p := ⟨gb240, 4, none⟩) (Kd.R_far (p := ⟨gb240, 3, none⟩) (Kd.R_far (p := ⟨gb240, 2, none⟩) (Kd.R_far (p := ⟨gb240, 1, none⟩) (Kd.R_far (p := ⟨gb240, 0, none⟩) (Kd.R_types HO238.out BK240.out (by decide)) (fun _ hk => hk.2) (.int .i64 t227)) (fun _ hk => hk.2) (.int .i64 t228)) (fun _ hk => hk.2) (.int .i64 t229)) (fun _ hk => hk.2) (.slice Ao19 t230.length co19)) (fun _ hk => hk.2) (.slice Ao20 t233.length co20)) (fun _ hk => hk.2) (.slice Ao21 t236.length co21)) (fun _ h_ => h_.1))) hb); replace BK216 := kb_ BK216 hb; replace BK240 := kp_ #[.int .i64 t227, .int .i64 t228, .int .i64 t229, .slice Ao19 t230.length co19, .slice Ao20 t233.length co20, .slice Ao21 t236.length co21] BK240 hb; replace HB := Aside0.mk (below_step oB hb); (try clear hk)))
        go_meet
        case rel => exact ⟨_, (t241), oS, H', ⟨by have := HK1.out; first | omega | exact Nat.le_refl _⟩, ⟨oR HO_3⟩, ⟨by (with_reducible repeat (first | apply Kd.Q_alloc | apply Kd.Q_drewN | apply Kd.Q_drew)); exact HO226.out⟩, ⟨oR HO232⟩, ⟨oR HO235⟩, ⟨oR HO238⟩, ⟨oF BK216⟩, ⟨oF BK240⟩, ⟨oB⟩⟩
       ·have H' := Aside0.mk H
        clear H
        go_wp2
        go_meet
        case rel => exact ⟨_, (true), oS, H', ⟨by have := HK1.out; first | omega | exact Nat.le_refl _⟩, ⟨by (with_reducible repeat (first | apply Kd.R_alloc | apply Kd.R_drewN | apply Kd.R_drew)); exact Kd.R_mono (Kd.R_far (p := ⟨gb240, 5, none⟩) (Kd.R_far (p := ⟨gb240, 4, none⟩) (Kd.R_far (p := ⟨gb240, 3, none⟩) (Kd.R_far (p := ⟨gb240, 2, none⟩) (Kd.R_far (p := ⟨gb240, 1, none⟩) (Kd.R_far (p := ⟨gb240, 0, none⟩) (Kd.R_types HO_3.out BK240.out (by decide)) (fun _ hk => hk.2) (.int .i64 t227)) (fun _ hk => hk.2) (.int .i64 t228)) (fun _ hk => hk.2) (.int .i64 t229)) (fun _ hk => hk.2) (.slice Ao19 t230.length co19)) (fun _ hk => hk.2) (.slice Ao20 t233.length co20)) (fun _ hk => hk.2) (.slice Ao21 t236.length co21)) (fun _ hk => hk.1)⟩, ⟨by (with_reducible repeat (first | apply Kd.Q_alloc | apply Kd.Q_drewN | apply Kd.Q_drew)); exact Kd.Q_mono (Kd.Q_far (p := ⟨gb240, 5, none⟩) (Kd.Q_far (p := ⟨gb240, 4, none⟩) (Kd.Q_far (p := ⟨gb240, 3, none⟩) (Kd.Q_far (p := ⟨gb240, 2, none⟩) (Kd.Q_far (p := ⟨gb240, 1, none⟩) (Kd.Q_far (p := ⟨gb240, 0, none⟩) (Kd.Q_types HO226.out BK240.out (by decide)) (fun _ hk => hk.2) (.int .i64 t227)) (fun _ hk => hk.2) (.int .i64 t228)) (fun _ hk => hk.2) (.int .i64 t229)) (fun _ hk => hk.2) (.slice Ao19 t230.length co19)) (fun _ hk => hk.2) (.slice Ao20 t233.length co20)) (fun _ hk => hk.2) (.slice Ao21 t236.length co21)) (fun _ hk => hk.1)⟩, ⟨by (with_reducible repeat (first | apply Kd.R_alloc | apply Kd.R_drewN | apply Kd.R_drew)); exact Kd.R_mono (Kd.R_far (p := ⟨gb240, 5, none⟩) (Kd.R_far (p := ⟨gb240, 4, none⟩) (Kd.R_far (p := ⟨gb240, 3, none⟩) (Kd.R_far (p := ⟨gb240, 2, none⟩) (Kd.R_far (p := ⟨gb240, 1, none⟩) (Kd.R_far (p := ⟨gb240, 0, none⟩) (Kd.R_types HO232.out BK240.out (by decide)) (fun _ hk => hk.2) (.int .i64 t227)) (fun _ hk => hk.2) (.int .i64 t228)) (fun _ hk => hk.2) (.int .i64 t229)) (fun _ hk => hk.2) (.slice Ao19 t230.length co19)) (fun _ hk => hk.2) (.slice Ao20 t233.length co20)) (fun _ hk => hk.2) (.slice Ao21 t236.length co21)) (fun _ hk => trivial)⟩, ⟨by (with_reducible repeat (first | apply Kd.R_alloc | apply Kd.R_drewN | apply Kd.R_drew)); exact Kd.R_mono (Kd.R_far (p := ⟨gb240, 5, none⟩) (Kd.R_far (p := ⟨gb240, 4, none⟩) (Kd.R_far (p := ⟨gb240, 3, none⟩) (Kd.R_far (p := ⟨gb240, 2, none⟩) (Kd.R_far (p := ⟨gb240, 1, none⟩) (Kd.R_far (p := ⟨gb240, 0, none⟩) (Kd.R_types HO235.out BK240.out (by decide)) (fun _ hk => hk.2) (.int .i64 t227)) (fun _ hk => hk.2) (.int .i64 t228)) (fun _ hk => hk.2) (.int .i64 t229)) (fun _ hk => hk.2) (.slice Ao19 t230.length co19)) (fun _ hk => hk.2) (.slice Ao20 t233.length co20)) (fun _ hk => hk.2) (.slice Ao21 t236.length co21)) (fun _ hk => trivial)⟩, ⟨by (with_reducible repeat (first | apply Kd.R_alloc | apply Kd.R_drewN | apply Kd.R_drew)); exact Kd.R_mono (Kd.R_far (p := ⟨gb240, 5, none⟩) (Kd.R_far (p := ⟨gb240, 4, none⟩) (Kd.R_far (p := ⟨gb240, 3, none⟩) (Kd.R_far (p := ⟨gb240, 2, none⟩) (Kd.R_far (p := ⟨gb240, 1, none⟩) (Kd.R_far (p := ⟨gb240, 0, none⟩) (Kd.R_types HO238.out BK240.out (by decide)) (fun _ hk => hk.2) (.int .i64 t227)) (fun _ hk => hk.2) (.int .i64 t228)) (fun _ hk => hk.2) (.int .i64 t229)) (fun _ hk => hk.2) (.slice Ao19 t230.length co19)) (fun _ hk => hk.2) (.slice Ao20 t233.length co20)) (fun _ hk => hk.2) (.slice Ao21 t236.length co21)) (fun _ hk => trivial)⟩, ⟨oF BK216⟩, ⟨oP BK240⟩, ⟨oB⟩⟩
      case rest =>
       clear HC11
       try clear c7
       try clear c7b0
       try clear c7b1
       try clear c8
       try clear c8b0
       try clear c8b1
       try clear c9
       obtain ⟨kq, x32_10, rfl, HA, HJ10, HO_3, HO_4, HO_241003, HO_241004, HO_241005, BK216, BK240, HB⟩ := hcut
       cases kq with
       | zero => exact absurd HA.out (by simp [impl_Reached.j1])
       | succ kj10 =>
        have H := HA.out
        clear HA
        simp only [impl_Reached.j1] at H
        replace H := itB H
        rcases H with ⟨rfl, H⟩ | ⟨rfl, H⟩
        ·have H' := Aside0.mk H
         clear H
         go_wp2
         go_roundg kj10
         case measure => have := HK1.out; have := HJ10.out; omega
         case rel => exact ⟨(x3_1), (y224), H', ⟨by have := HK1.out; have := HJ10.out; omega⟩, ⟨oR HO_3⟩, ⟨by (with_reducible repeat (first | apply Kd.Q_alloc | apply Kd.Q_drewN | apply Kd.Q_drew)); exact HO_4.out⟩, ⟨oF BK216⟩, ⟨oB⟩⟩
        ·by_cases c27 : x3_1.length < 17592186044416
         ·rw [if_pos c27] at H
          have LMc27 := Aside0.mk c27
          clear c27
          obtain ⟨y242, hy242⟩ : ∃ y_ : List Int, y_ = (x3_1 ++ [(rd x4_1 0)]) := ⟨_, rfl⟩
          replace H : (if t228 = 2 then (impl_Reached.l1 kj10 y242 y224 t233 (t233.length : Int) 0 l0_0 a0_1) else (impl_Reached.l0 kj10 y242 y224 l0_0 a0_1)) = some r := by first | (rw [hy242]; with_reducible exact H) | (have H2_ := (Option.bind_some _ _).symm.trans H; rw [hy242]; with_reducible exact H2_) | (have H2_ := (Option.bind_some _ _).symm.trans H; with_reducible exact H2_) | with_reducible exact H | (rw [hy242]; exact H) | exact H
          have Ny242 := Aside0.mk hy242
          clear hy242
          by_cases c28 : t228 = 2
          ·rw [if_pos c28] at H
           have c28b0 : (t228 == 2) = true := beq_iff_eq.mpr c28
           have c28b1 : (t228 != 2) = false := bne_eq_false_iff_eq.mpr c28
           clear c28
           have H' := Aside0.mk H
           clear H
           go_wp2_with (first | ((with_reducible refine gate_builtin (b := .append) (xs := #[.tmp 33, .tmp 35]) rfl ?_); at_builtin; refine Kd.R_append (Kd.int .i64) (w0 := w) w.heap.size rfl (.tmp 33) (.tmp 35) 61 3 (.int .i64 0) 8 rfl Tryz.underlying61 info3 rfl (by decide) (by omega) u3 x3_1 (rd x4_1 0) [.int .i64 (rd x4_1 0)] (fun k_ => some k_ ≠ (.slice A13 y224.length c13 : Value).ownBlock) (fun _ => False) rfl rfl ?aP (fun _ hk => hk.elim) ?aF ?aO ?aB ?aS ?aL ?_; (case aP => exact rfl); (case aB => exact oB); (case aF => exact (fun k_ hk => Kd.fresh' (Kd.Q_lt (by (with_reducible repeat (first | apply Kd.Q_alloc | apply Kd.Q_drewN | apply Kd.Q_drew)); exact HO_4.out)) k_ hk)); (case aO => exact (oR HO_3)); (case aS => exact (below_size oB)); (case aL => have := LMc27.out; omega); intro v243 w29 ho hb hg hat; rw [← Ny242.out] at ho; have HO244 := Aside0.mk (ho); replace HO_4 := Aside0.mk (Kd.Q_after (ok := (fun _ => True)) (by (with_reducible repeat (first | apply Kd.Q_alloc | apply Kd.Q_drewN | apply Kd.Q_drew)); exact Kd.Q_mono HO_4.out (fun _ hk => ⟨trivial, hk⟩)) hg hat); replace HO_241003 := Aside0.mk (Kd.R_over' (oR HO_241003) (Kd.R_typed (oR HO_3)) (by decide) hg); replace HO_241004 := Aside0.mk (Kd.R_over' (oR HO_241004) (Kd.R_typed (oR HO_3)) (by decide) hg); replace HO_241005 := Aside0.mk (Kd.R_over' (oR HO_241005) (Kd.R_typed (oR HO_3)) (by decide) hg); replace BK216 := Aside0.mk (blk_grown (g := gb216) (o := .cells #[.slice A0_0 l0_0.length c0_0, .int .i64 a0_1] 26 (0, 0)) (oF BK216) hg (Kd.R_ne HO_3.out BK216.out (by decide))); replace BK240 := Aside0.mk (blk_grown (g := gb240) (o := .cells #[.int .i64 t227, .int .i64 t228, .int .i64 t229, .slice Ao19 t230.length co19, .slice Ao20 t233.length co20, .slice Ao21 t236.length co21] 51 (0, 0)) (oF BK240) hg (Kd.R_ne HO_3.out BK240.out (by decide))); replace HB := Aside0.mk (hb); clear HO_3; clear ho hb hg hat; have hnb30 := NB240_216.out; have hnc30 := NB216_240.out; obtain ⟨⟨_, _, _, _, _, _⟩, _, _, _, _, _, _⟩ := z6 BK240))
           go_loopg [4, 43] kj10 (fun kq v4 v43 w' => ∃ (x4_3 : List Int) (x43_3 : Int), v43 = .int .i64 x43_3 ∧ Aside0 (impl_Reached.l1 kq y242 x4_3 t233 (t233.length : Int) x43_3 l0_0 a0_1 = some r) ∧ Aside0 (kq ≤ kj10) ∧ Aside0 (Kd.R (Kd.int .i64) 3 w' w.heap.size (fun k_ => some k_ ≠ (v4 : Value).ownBlock) v243 y242) ∧ Aside0 (Kd.Q (Kd.int .i64) 3 w' w.heap.size (fun k_ => some k_ ≠ (v243 : Value).ownBlock) v4 x4_3) ∧ Aside0 (Kd.R k65 65 w' w.heap.size (fun _ => True) (.slice Ao20 t233.length co20) t233) ∧ Aside0 (Kd.R (Kd.int .u8) 5 w' w.heap.size (fun _ => True) (.slice Ao19 t230.length co19) t230) ∧ Aside0 (Kd.R k65 65 w' w.heap.size (fun _ => True) (.slice Ao20 t233.length co20) t233) ∧ Aside0 (Kd.R k71 71 w' w.heap.size (fun _ => True) (.slice Ao21 t236.length co21) t236) ∧ Aside0 (w'.heap[gb216]? = some (.cells #[(.slice A0_0 l0_0.length c0_0), .int .i64 a0_1] 26 (0, 0))) ∧ Aside0 (w'.heap[gb240]? = some (.cells #[.int .i64 t227, .int .i64 t228, .int .i64 t229, (.slice Ao19 t230.length co19), (.slice Ao20 t233.length co20), (.slice Ao21 t236.length co21)] 51 (0, 0))) ∧ Aside0 (Below w.heap.size w w'))
           case atStart => exact ⟨(y224), (0), oS, H', ⟨Nat.le_refl _⟩, ⟨oR HO244⟩, ⟨by (with_reducible repeat (first | apply Kd.Q_alloc | apply Kd.Q_drewN | apply Kd.Q_drew)); exact Kd.Q_mono HO_4.out (fun _ hk => hk.2)⟩, ⟨oR HO_241004⟩, ⟨oR HO_241003⟩, ⟨oR HO_241004⟩, ⟨oR HO_241005⟩, ⟨oF BK216⟩, ⟨oF BK240⟩, ⟨oB⟩⟩
           case round =>
            clear H'
            try clear c7
            try clear c7b0
            try clear c7b1
            try clear c8
            try clear c8b0
            try clear c8b1
            try clear c9
            try clear c27
            try clear c28
            obtain ⟨x4_3, x43_3, rfl, HA, HK3, HO_3, HO_4, HO_41, HO_241003, HO_241004, HO_241005, BK216, BK240, HB⟩ := hrel
            cases gk with
            | zero => exact absurd HA.out (by simp [impl_Reached.l1])
            | succ k3 =>
             have H := HA.out
             clear HA
             simp only [impl_Reached.l1] at H
             replace H := itD H
             rcases H with ⟨c32b0, H⟩ | ⟨c32b0, H⟩
             ·replace H := itD H
              rcases H with ⟨c33b0, H⟩ | ⟨c33b0, H⟩
              ·replace H := itD H
               rcases H with ⟨c34b0, H⟩ | ⟨c34b0, H⟩
               ·by_cases c35 : x4_3.length < 17592186044416
                ·rw [if_pos c35] at H
                 have LMc35 := Aside0.mk c35
                 clear c35
                 obtain ⟨y247, hy247⟩ : ∃ y_ : List Int, y_ = (x4_3 ++ [(rd_T65 t233 x43_3).f1]) := ⟨_, rfl⟩
                 replace H : (impl_Reached.l1 k3 y242 y247 t233 (t233.length : Int) (wrap64 (x43_3 + 1)) l0_0 a0_1) = some r := by first | (rw [hy247]; with_reducible exact H) | (have H2_ := (Option.bind_some _ _).symm.trans H; rw [hy247]; with_reducible exact H2_) | (have H2_ := (Option.bind_some _ _).symm.trans H; with_reducible exact H2_) | with_reducible exact H | (rw [hy247]; exact H) | exact H
                 have Ny247 := Aside0.mk hy247
                 clear hy247
                 have H' := Aside0.mk H
                 clear H
                 have p245 : (0 ≤ (x43_3 : Int)) = True := oT
                 have q245 : (x43_3 < (t233.length : Int)) = True := oT
                 obtain ⟨ad245, e245, hx245_0, hx245_1⟩ := at_T65 (Kd.R_reads' HO_41.out).2.2 x43_3 oa oa
                 cases e245
                 go_wp2_with (first | ((with_reducible refine gate_dst (N := 9) rfl ?_); refine bx_ 9 #[.string (⟨#[]⟩ : ByteArray), .int .i64 0] 65 ?_; intro gb246 hg w36 hbox hb; have BK246 := Aside0.mk (hbox); have GW246 := gs_ hg; have NB216_246 := nl_ hg BK216; have NB246_216 := nr_ hg BK216; have NB240_246 := nl_ hg BK240; have NB246_240 := nr_ hg BK240; replace HO_3 := kr_ HO_3 hb; replace HO_4 := Aside0.mk (Kd.Q_below (by (with_reducible repeat (first | apply Kd.Q_alloc | apply Kd.Q_drewN | apply Kd.Q_drew)); exact HO_4.out) hb); replace HO_41 := Aside0.mk (Kd.R_below (Kd.R_elderB (oR HO_41) gb246 (Nat.le_of_eq hg.symm)) hb); replace HO_241003 := kr_ HO_241003 hb; replace HO_241004 := Aside0.mk (Kd.R_below (Kd.R_elderB (oR HO_241004) gb246 (Nat.le_of_eq hg.symm)) hb); replace HO_241005 := kr_ HO_241005 hb; replace BK216 := kb_ BK216 hb; replace BK240 := kb_ BK240 hb; replace HB := Aside0.mk (below_step oB hb); clear hb hbox hg; have hnb37 := NB246_216.out; have hnc37 := NB216_246.out; have hnb38 := NB246_240.out; have hnc38 := NB240_246.out; obtain ⟨⟨_, _⟩, _, _⟩ := z2 BK246) | ((with_reducible refine gate_builtin (b := .append) (xs := #[.tmp 47, .tmp 50]) rfl ?_); at_builtin; refine Kd.Q_append (Kd.int .i64) (w0 := w) w.heap.size rfl (.tmp 47) (.tmp 50) 61 3 (.int .i64 0) 8 rfl Tryz.underlying61 info3 rfl (by decide) (by omega) u4 x4_3 ((rd_T65 t233 x43_3).f1) [.int .i64 ((rd_T65 t233 x43_3).f1)] (fun k_ => some k_ ≠ (v243 : Value).ownBlock) (fun _ => False) rfl (by first | (go_simp; done) | (go_simp; rfl)) ?aP (fun _ hk => hk.elim) ?aF ?aO ?aB ?aS ?aL ?_; (case aP => exact rfl); (case aB => exact oB); (case aF => exact (fun k_ hk => Kd.fresh' (Kd.R_lt (by (with_reducible repeat (first | apply Kd.R_alloc | apply Kd.R_drewN | apply Kd.R_drew)); exact (Kd.R_mono (Kd.R_far (p := ⟨gb246, 1, none⟩) (Kd.R_far (p := ⟨gb246, 0, none⟩) (Kd.R_types HO_3.out BK246.out (by decide)) (fun _ hk => hk.2) (.string ((rd_T65 t233 x43_3).f0))) (fun _ hk => hk.2) (.int .i64 ((rd_T65 t233 x43_3).f1))) (fun _ h_ => h_.1)))) k_ hk)); (case aO => exact (by (with_reducible repeat (first | apply Kd.Q_alloc | apply Kd.Q_drewN | apply Kd.Q_drew)); exact Kd.Q_mono (Kd.Q_far (p := ⟨gb246, 1, none⟩) (Kd.Q_far (p := ⟨gb246, 0, none⟩) (Kd.Q_types HO_4.out BK246.out (by decide)) (fun _ hk => hk.2) (.string ((rd_T65 t233 x43_3).f0))) (fun _ hk => hk.2) (.int .i64 ((rd_T65 t233 x43_3).f1))) (fun _ hk => hk.1))); (case aS => exact (below_size oB)); (case aL => have := LMc35.out; omega); intro v248 w40 ho hb hg hat; rw [← Ny247.out] at ho; have HO249 := Aside0.mk (ho); replace HO_3 := Aside0.mk (Kd.R_after (ok := (fun _ => True)) (by (with_reducible repeat (first | apply Kd.R_alloc | apply Kd.R_drewN | apply Kd.R_drew)); exact Kd.R_mono (Kd.R_far (p := ⟨gb246, 1, none⟩) (Kd.R_far (p := ⟨gb246, 0, none⟩) (Kd.R_types HO_3.out BK246.out (by decide)) (fun _ hk => hk.2) (.string ((rd_T65 t233 x43_3).f0))) (fun _ hk => hk.2) (.int .i64 ((rd_T65 t233 x43_3).f1))) (fun _ hk => ⟨trivial, hk.1⟩)) hg hat); replace HO_41 := Aside0.mk (Kd.R_over' (by (with_reducible repeat (first | apply Kd.R_alloc | apply Kd.R_drewN | apply Kd.R_drew)); exact (Kd.R_mono (Kd.R_far (p := ⟨gb246, 1, none⟩) (Kd.R_far (p := ⟨gb246, 0, none⟩) (Kd.R_mono HO_41.out (fun k_ hk => (⟨hk, hk.2⟩ : _ ∧ k_ ≠ gb246))) (fun _ hk => hk.2) (.string ((rd_T65 t233 x43_3).f0))) (fun _ hk => hk.2) (.int .i64 ((rd_T65 t233 x43_3).f1))) (fun _ h_ => h_.1))) (Kd.Q_typed (by (with_reducible repeat (first | apply Kd.Q_alloc | apply Kd.Q_drewN | apply Kd.Q_drew)); exact (Kd.Q_mono (Kd.Q_far (p := ⟨gb246, 1, none⟩) (Kd.Q_far (p := ⟨gb246, 0, none⟩) (Kd.Q_types HO_4.out BK246.out (by decide)) (fun _ hk => hk.2) (.string ((rd_T65 t233 x43_3).f0))) (fun _ hk => hk.2) (.int .i64 ((rd_T65 t233 x43_3).f1))) (fun _ h_ => h_.1)))) (by decide) hg); replace HO_241003 := Aside0.mk (Kd.R_over' (by (with_reducible repeat (first | apply Kd.R_alloc | apply Kd.R_drewN | apply Kd.R_drew)); exact (Kd.R_mono (Kd.R_far (p := ⟨gb246, 1, none⟩) (Kd.R_far (p := ⟨gb246, 0, none⟩) (Kd.R_types HO_241003.out BK246.out (by decide)) (fun _ hk => hk.2) (.string ((rd_T65 t233 x43_3).f0))) (fun _ hk => hk.2) (.int .i64 ((rd_T65 t233 x43_3).f1))) (fun _ h_ => h_.1))) (Kd.Q_typed (by (with_reducible repeat (first | apply Kd.Q_alloc | apply Kd.Q_drewN | apply Kd.Q_drew)); exact (Kd.Q_mono (Kd.Q_far (p := ⟨gb246, 1, none⟩) (Kd.Q_far (p := ⟨gb246, 0, none⟩) (Kd.Q_types HO_4.out BK246.out (by decide)) (fun _ hk => hk.2) (.string ((rd_T65 t233 x43_3).f0))) (fun _ hk => hk.2) (.int .i64 ((rd_T65 t233 x43_3).f1))) (fun _ h_ => h_.1)))) (by decide) hg); replace HO_241004 := Aside0.mk (Kd.R_over' (by (with_reducible repeat (first | apply Kd.R_alloc | apply Kd.R_drewN | apply Kd.R_drew)); exact (Kd.R_mono (Kd.R_far (p := ⟨gb246, 1, none⟩) (Kd.R_far (p := ⟨gb246, 0, none⟩) (Kd.R_mono HO_241004.out (fun k_ hk => (⟨hk, hk.2⟩ : _ ∧ k_ ≠ gb246))) (fun _ hk => hk.2) (.string ((rd_T65 t233 x43_3).f0))) (fun _ hk => hk.2) (.int .i64 ((rd_T65 t233 x43_3).f1))) (fun _ h_ => h_.1))) (Kd.Q_typed (by (with_reducible repeat (first | apply Kd.Q_alloc | apply Kd.Q_drewN | apply Kd.Q_drew)); exact (Kd.Q_mono (Kd.Q_far (p := ⟨gb246, 1, none⟩) (Kd.Q_far (p := ⟨gb246, 0, none⟩) (Kd.Q_types HO_4.out BK246.out (by decide)) (fun _ hk => hk.2) (.string ((rd_T65 t233 x43_3).f0))) (fun _ hk => hk.2) (.int .i64 ((rd_T65 t233 x43_3).f1))) (fun _ h_ => h_.1)))) (by decide) hg); replace HO_241005 := Aside0.mk (Kd.R_over' (by (with_reducible repeat (first | apply Kd.R_alloc | apply Kd.R_drewN | apply Kd.R_drew)); exact (Kd.R_mono (Kd.R_far (p := ⟨gb246, 1, none⟩) (Kd.R_far (p := ⟨gb246, 0, none⟩) (Kd.R_types HO_241005.out BK246.out (by decide)) (fun _ hk => hk.2) (.string ((rd_T65 t233 x43_3).f0))) (fun _ hk => hk.2) (.int .i64 ((rd_T65 t233 x43_3).f1))) (fun _ h_ => h_.1))) (Kd.Q_typed (by (with_reducible repeat (first | apply Kd.Q_alloc | apply Kd.Q_drewN | apply Kd.Q_drew)); exact (Kd.Q_mono (Kd.Q_far (p := ⟨gb246, 1, none⟩) (Kd.Q_far (p := ⟨gb246, 0, none⟩) (Kd.Q_types HO_4.out BK246.out (by decide)) (fun _ hk => hk.2) (.string ((rd_T65 t233 x43_3).f0))) (fun _ hk => hk.2) (.int .i64 ((rd_T65 t233 x43_3).f1))) (fun _ h_ => h_.1)))) (by decide) hg); replace BK216 := Aside0.mk (blk_grown (g := gb216) (o := .cells #[.slice A0_0 l0_0.length c0_0, .int .i64 a0_1] 26 (0, 0)) (oF BK216) hg (Kd.Q_ne HO_4.out BK216.out (by decide))); replace BK240 := Aside0.mk (blk_grown (g := gb240) (o := .cells #[.int .i64 t227, .int .i64 t228, .int .i64 t229, .slice Ao19 t230.length co19, .slice (some ad245) t233.length co20, .slice Ao21 t236.length co21] 51 (0, 0)) (oF BK240) hg (Kd.Q_ne HO_4.out BK240.out (by decide))); replace BK246 := Aside0.mk (blk_grown (g := gb246) (o := .cells #[.string ((rd_T65 t233 x43_3).f0), .int .i64 ((rd_T65 t233 x43_3).f1)] 65 (0, 0)) (oP BK246) hg (Kd.Q_ne HO_4.out BK246.out (by decide))); replace HB := Aside0.mk (hb); clear HO_4; clear ho hb hg hat))
                 go_roundg k3
                 case measure => have := HK1.out; have := HJ10.out; have := HK3.out; omega
                 case rel => exact ⟨(y247), (wrap64 (x43_3 + 1)), oS, H', ⟨by have := HK1.out; have := HJ10.out; have := HK3.out; omega⟩, ⟨by (with_reducible repeat (first | apply Kd.R_alloc | apply Kd.R_drewN | apply Kd.R_drew)); exact Kd.R_mono HO_3.out (fun _ hk => hk.2)⟩, ⟨by (with_reducible repeat (first | apply Kd.Q_alloc | apply Kd.Q_drewN | apply Kd.Q_drew)); exact HO249.out⟩, ⟨by (with_reducible repeat (first | apply Kd.R_alloc | apply Kd.R_drewN | apply Kd.R_drew)); exact Kd.R_mono HO_41.out (fun _ hk => trivial)⟩, ⟨oR HO_241003⟩, ⟨by (with_reducible repeat (first | apply Kd.R_alloc | apply Kd.R_drewN | apply Kd.R_drew)); exact Kd.R_mono HO_241004.out (fun _ hk => trivial)⟩, ⟨oR HO_241005⟩, ⟨oF BK216⟩, ⟨oF BK240⟩, ⟨oB⟩⟩
                ·rw [if_neg c35] at H
                 exact absurd H (by simp)
               ·cases H
              ·cases H
             ·have H' := Aside0.mk H
              clear H
              go_wp2
              go_roundg k3
              case measure => have := HK1.out; have := HJ10.out; have := HK3.out; omega
              case rel => exact ⟨(y242), (x4_3), H', ⟨by have := HK1.out; have := HJ10.out; have := HK3.out; omega⟩, ⟨oR HO_3⟩, ⟨by (with_reducible repeat (first | apply Kd.Q_alloc | apply Kd.Q_drewN | apply Kd.Q_drew)); exact HO_4.out⟩, ⟨oF BK216⟩, ⟨oB⟩⟩
          ·rw [if_neg c28] at H
           have c28b0 : (t228 == 2) = false := beq_eq_false_iff_ne.mpr c28
           have c28b1 : (t228 != 2) = true := bne_iff_ne.mpr c28
           have H' := Aside0.mk H
           clear H
           go_wp2_with (first | ((with_reducible refine gate_builtin (b := .append) (xs := #[.tmp 33, .tmp 35]) rfl ?_); at_builtin; refine Kd.R_append (Kd.int .i64) (w0 := w) w.heap.size rfl (.tmp 33) (.tmp 35) 61 3 (.int .i64 0) 8 rfl Tryz.underlying61 info3 rfl (by decide) (by omega) u3 x3_1 (rd x4_1 0) [.int .i64 (rd x4_1 0)] (fun k_ => some k_ ≠ (.slice A13 y224.length c13 : Value).ownBlock) (fun _ => False) rfl rfl ?aP (fun _ hk => hk.elim) ?aF ?aO ?aB ?aS ?aL ?_; (case aP => exact rfl); (case aB => exact oB); (case aF => exact (fun k_ hk => Kd.fresh' (Kd.Q_lt (by (with_reducible repeat (first | apply Kd.Q_alloc | apply Kd.Q_drewN | apply Kd.Q_drew)); exact HO_4.out)) k_ hk)); (case aO => exact (oR HO_3)); (case aS => exact (below_size oB)); (case aL => have := LMc27.out; omega); intro v243 w41 ho hb hg hat; rw [← Ny242.out] at ho; have HO244 := Aside0.mk (ho); replace HO_4 := Aside0.mk (Kd.Q_after (ok := (fun _ => True)) (by (with_reducible repeat (first | apply Kd.Q_alloc | apply Kd.Q_drewN | apply Kd.Q_drew)); exact Kd.Q_mono HO_4.out (fun _ hk => ⟨trivial, hk⟩)) hg hat); replace HO_241003 := Aside0.mk (Kd.R_over' (oR HO_241003) (Kd.R_typed (oR HO_3)) (by decide) hg); replace HO_241004 := Aside0.mk (Kd.R_over' (oR HO_241004) (Kd.R_typed (oR HO_3)) (by decide) hg); replace HO_241005 := Aside0.mk (Kd.R_over' (oR HO_241005) (Kd.R_typed (oR HO_3)) (by decide) hg); replace BK216 := Aside0.mk (blk_grown (g := gb216) (o := .cells #[.slice A0_0 l0_0.length c0_0, .int .i64 a0_1] 26 (0, 0)) (oF BK216) hg (Kd.R_ne HO_3.out BK216.out (by decide))); replace BK240 := Aside0.mk (blk_grown (g := gb240) (o := .cells #[.int .i64 t227, .int .i64 t228, .int .i64 t229, .slice Ao19 t230.length co19, .slice Ao20 t233.length co20, .slice Ao21 t236.length co21] 51 (0, 0)) (oF BK240) hg (Kd.R_ne HO_3.out BK240.out (by decide))); replace HB := Aside0.mk (hb); clear HO_3; clear ho hb hg hat; have hnb42 := NB240_216.out; have hnc42 := NB216_240.out; obtain ⟨⟨_, _, _, _, _, _⟩, _, _, _, _, _, _⟩ := z6 BK240))
           go_roundg kj10
           case measure => have := HK1.out; have := HJ10.out; omega
           case rel => exact ⟨(y242), (y224), H', ⟨by have := HK1.out; have := HJ10.out; omega⟩, ⟨oR HO244⟩, ⟨by (with_reducible repeat (first | apply Kd.Q_alloc | apply Kd.Q_drewN | apply Kd.Q_drew)); exact Kd.Q_mono HO_4.out (fun _ hk => hk.2)⟩, ⟨oF BK216⟩, ⟨oB⟩⟩
         ·rw [if_neg c27] at H
          exact absurd H (by simp)
     ·rw [if_neg c9] at H
      exact absurd H (by simp)
    ·rw [if_neg c8] at H
     exact absurd H (by simp)
   ·rw [if_neg c7] at H
    have c7b0 : decide (0 < (x4_1.length : Int)) = false := decide_eq_false c7
    have c7b1 : decide (0 < x4_1.length) = false := decide_eq_false (by omega)
    clear c7
    split at H
    case isFalse => cases H
    case isTrue hsl_ =>
    obtain rfl := Option.some.inj H
    obtain ⟨Ao44, co44, eo44, _⟩ := Kd.Q_slice HO_4.out
    subst eo44
    obtain ⟨Aq_, cq_, rfl⟩ := Kd.R_slice HO_3.out
    go_wp2_with (go_at_call 68; refine (sortOwn.calls Aq_ cq_ w.heap.size (fun _ => True) x3_1 _ (Kd.R_mono (by (with_reducible repeat (first | apply Kd.R_alloc | apply Kd.R_drewN | apply Kd.R_drew)); exact HO_3.out) (fun _ _ => trivial)) hsl_).mono ?_; rintro e w9_ ⟨rfl, hs_, hg_⟩)
    go_ret
    exact ⟨_, oE, hs_, (oB : Below w.heap.size w _).grown hg_ (below_size oB) (fun k_ hk_ => Kd.R_base hs_ k_ hk_)⟩

/-! ### impl_LinksOf: function 40 -/
mutual
def impl_LinksOf.l0 : Nat → Int → Int → List (S51) → Int → Int → Option (Int)
 | 0, _, _, _, _, _ => none
 | k + 1, x1, x5, x11, x12, x13 => if x13 < x12 then (if 0 ≤ x13 then (if x13 < (x11.length : Int) then (if ((rd_T51 x11 x13).f1) = 2 then (impl_LinksOf.l1 k x1 x5 x11 x12 x13 ((rd_T51 x11 x13).f4) (((rd_T51 x11 x13).f4).length : Int) 0) else (impl_LinksOf.l0 k x1 x5 x11 x12 (wrap64 (x13 + 1)))) else (none)) else (none)) else (some x5)
def impl_LinksOf.l1 : Nat → Int → Int → List (S51) → Int → Int → List (S65) → Int → Int → Option (Int)
 | 0, _, _, _, _, _, _, _, _ => none
 | k + 1, x1, x5, x11, x12, x13, x21, x22, x23 => if x23 < x22 then (if 0 ≤ x23 then (if x23 < (x21.length : Int) then (if ((rd_T65 x21 x23).f1) = x1 then (impl_LinksOf.l1 k x1 (wrap64 (x5 + 1)) x11 x12 x13 x21 x22 (wrap64 (x23 + 1))) else (impl_LinksOf.l1 k x1 x5 x11 x12 x13 x21 x22 (wrap64 (x23 + 1)))) else (none)) else (none)) else (impl_LinksOf.l0 k x1 x5 x11 x12 (wrap64 (x13 + 1)))
end
def impl_LinksOf.f (k : Nat) (l0_0 : List (S51)) (a0_1 : Int) (a1 : Int) : Option (Int) := impl_LinksOf.l0 k a1 0 l0_0 (l0_0.length : Int) 0
set_option maxHeartbeats 8000000 in
set_option maxRecDepth 100000 in
theorem impl_LinksOf.calls (k : Nat) (A0_0 : Option Addr) (c0_0 : Nat) (l0_0 : List (S51)) (a0_1 : Int) (a1 : Int) (r : Int) (w : World) (hr0_0 : Kd.C k51 w A0_0 l0_0.length l0_0) (hc0_0 : l0_0.length ≤ c0_0) (h : impl_LinksOf.f k l0_0 a0_1 a1 = some r) :
  Calls Tryz.prog 40 #[.agg #[.slice A0_0 l0_0.length c0_0, .int .i64 a0_1], .int .i64 a1] w fun e w' => e = .returned (.int .i64 r) ∧ Below w.heap.size w w' := by
 have hu26 := Tryz.underlying26
 have hu51 := Tryz.underlying51
 have hu65 := Tryz.underlying65
 have HR0_0 := Aside0.mk hr0_0
 have HC0_0 := Aside0.mk hc0_0
 clear hr0_0 hc0_0
 have HB := Aside0.mk (Below.refl w.heap.size w)
 unfold impl_LinksOf.f at h
 have H := h
 clear h
 have H' := Aside0.mk H
 clear H
 go_enter Tryz.func40, Tryz.ntmps40
 go_wp2_with (first | ((with_reducible refine gate_dst (N := 2) rfl ?_); refine bx_ 2 #[.slice A0_0 l0_0.length c0_0, .int .i64 a0_1] 26 ?_; intro gb250 hg w3 hbox hb; have BK250 := Aside0.mk (hbox); have GW250 := gs_ hg; replace HB := Aside0.mk (below_step oB hb); clear hb hbox hg; obtain ⟨⟨_, _⟩, _, _⟩ := z2 BK250))
 go_loopg [5, 13] k (fun kq v5 v13 w' => ∃ (x5_1 : Int) (x13_1 : Int), v5 = .int .i64 x5_1 ∧ v13 = .int .i64 x13_1 ∧ Aside0 (impl_LinksOf.l0 kq a1 x5_1 l0_0 (l0_0.length : Int) x13_1 = some r) ∧ Aside0 (kq ≤ k) ∧ Aside0 (w'.heap[gb250]? = some (.cells #[(.slice A0_0 l0_0.length c0_0), .int .i64 a0_1] 26 (0, 0))) ∧ Aside0 (Below w.heap.size w w'))
 case atStart => exact ⟨(0), (0), oS, oS, H', ⟨Nat.le_refl _⟩, ⟨oF BK250⟩, ⟨oB⟩⟩
 case round =>
  clear H'
  obtain ⟨x5_1, x13_1, rfl, rfl, HA, HK1, BK250, HB⟩ := hrel
  cases gk with
  | zero => exact absurd HA.out (by simp [impl_LinksOf.l0])
  | succ k1 =>
   have H := HA.out
   clear HA
   simp only [impl_LinksOf.l0] at H
   replace H := itD H
   rcases H with ⟨c5b0, H⟩ | ⟨c5b0, H⟩
   ·replace H := itD H
    rcases H with ⟨c6b0, H⟩ | ⟨c6b0, H⟩
    ·replace H := itD H
     rcases H with ⟨c7b0, H⟩ | ⟨c7b0, H⟩
     ·by_cases c8 : ((rd_T51 l0_0 x13_1).f1) = 2
      ·rw [if_pos c8] at H
       have c8b0 : (((rd_T51 l0_0 x13_1).f1) == 2) = true := beq_iff_eq.mpr c8
       have c8b1 : (((rd_T51 l0_0 x13_1).f1) != 2) = false := bne_eq_false_iff_eq.mpr c8
       clear c8
       have H' := Aside0.mk H
       clear H
       have p251 : (0 ≤ (x13_1 : Int)) = True := oT
       have q251 : (x13_1 < (l0_0.length : Int)) = True := oT
       obtain ⟨ad251, A251_3, c251_3, A251_4, c251_4, A251_5, c251_5, e251, hx251_0, hx251_1, hx251_2, hx251_3, hx251_4, hx251_5, hl251_3, hi251_3, hl251_4, hi251_4, hl251_5, hi251_5⟩ := at_T51 HR0_0.out x13_1 oa oa
       cases e251
       replace hx251_0 := cB HB hx251_0
       replace hx251_1 := cB HB hx251_1
       replace hx251_2 := cB HB hx251_2
       replace hx251_3 := cB HB hx251_3
       replace hx251_4 := cB HB hx251_4
       replace hx251_5 := cB HB hx251_5
       have HR251_3 := Aside0.mk hi251_3
       have HC251_3 := Aside0.mk hl251_3
       clear hi251_3 hl251_3
       have HR251_4 := Aside0.mk hi251_4
       have HC251_4 := Aside0.mk hl251_4
       clear hi251_4 hl251_4
       have HR251_5 := Aside0.mk hi251_5
       have HC251_5 := Aside0.mk hl251_5
       clear hi251_5 hl251_5
       go_wp2_with (first | ((with_reducible refine gate_dst (N := 7) rfl ?_); refine bx_ 7 #[.int .i64 0, .int .i64 0, .int .i64 0, .slice none 0 0, .slice none 0 0, .slice none 0 0] 51 ?_; intro gb252 hg w9 hbox hb; have BK252 := Aside0.mk (hbox); have GW252 := gs_ hg; have NB250_252 := nl_ hg BK250; have NB252_250 := nr_ hg BK250; replace BK250 := kb_ BK250 hb; replace HB := Aside0.mk (below_step oB hb); clear hb hbox hg; have hnb10 := NB252_250.out; have hnc10 := NB250_252.out; obtain ⟨⟨_, _, _, _, _, _⟩, _, _, _, _, _, _⟩ := z6 BK252))
       go_loopg [5, 23] k1 (fun kq v5 v23 w' => ∃ (x5_2 : Int) (x23_2 : Int), v5 = .int .i64 x5_2 ∧ v23 = .int .i64 x23_2 ∧ Aside0 (impl_LinksOf.l1 kq a1 x5_2 l0_0 (l0_0.length : Int) x13_1 ((rd_T51 l0_0 x13_1).f4) (((rd_T51 l0_0 x13_1).f4).length : Int) x23_2 = some r) ∧ Aside0 (kq ≤ k1) ∧ Aside0 (w'.heap[gb250]? = some (.cells #[(.slice (some ad251) l0_0.length c0_0), .int .i64 a0_1] 26 (0, 0))) ∧ Aside0 (w'.heap[gb252]? = some (.cells #[.int .i64 ((rd_T51 l0_0 x13_1).f0), .int .i64 ((rd_T51 l0_0 x13_1).f1), .int .i64 ((rd_T51 l0_0 x13_1).f2), (.slice A251_3 ((rd_T51 l0_0 x13_1).f3).length c251_3), (.slice A251_4 ((rd_T51 l0_0 x13_1).f4).length c251_4), (.slice A251_5 ((rd_T51 l0_0 x13_1).f5).length c251_5)] 51 (0, 0))) ∧ Aside0 (Below w.heap.size w w'))
       case atStart => exact ⟨(x5_1), (0), oS, oS, H', ⟨Nat.le_refl _⟩, ⟨oF BK250⟩, ⟨oP BK252⟩, ⟨oB⟩⟩
       case round =>
        clear H'
        try clear c5b0
        try clear c6b0
        try clear c7b0
        try clear c8
        obtain ⟨x5_2, x23_2, rfl, rfl, HA, HK2, BK250, BK252, HB⟩ := hrel
        cases gk with
        | zero => exact absurd HA.out (by simp [impl_LinksOf.l1])
        | succ k2 =>
         have H := HA.out
         clear HA
         simp only [impl_LinksOf.l1] at H
         replace H := itD H
         rcases H with ⟨c12b0, H⟩ | ⟨c12b0, H⟩
         ·replace H := itD H
          rcases H with ⟨c13b0, H⟩ | ⟨c13b0, H⟩
          ·replace H := itD H
           rcases H with ⟨c14b0, H⟩ | ⟨c14b0, H⟩
           ·by_cases c15 : ((rd_T65 ((rd_T51 l0_0 x13_1).f4) x23_2).f1) = a1
            ·rw [if_pos c15] at H
             have c15b0 : (((rd_T65 ((rd_T51 l0_0 x13_1).f4) x23_2).f1) == a1) = true := beq_iff_eq.mpr c15
             have c15b1 : (((rd_T65 ((rd_T51 l0_0 x13_1).f4) x23_2).f1) != a1) = false := bne_eq_false_iff_eq.mpr c15
             clear c15
             have H' := Aside0.mk H
             clear H
             have p253 : (0 ≤ (x23_2 : Int)) = True := oT
             have q253 : (x23_2 < (((rd_T51 l0_0 x13_1).f4).length : Int)) = True := oT
             obtain ⟨ad253, e253, hx253_0, hx253_1⟩ := at_T65 HR251_4.out x23_2 oa oa
             cases e253
             replace hx253_0 := cB HB hx253_0
             replace hx253_1 := cB HB hx253_1
             go_wp2_with (first | ((with_reducible refine gate_dst (N := 9) rfl ?_); refine bx_ 9 #[.string (⟨#[]⟩ : ByteArray), .int .i64 0] 65 ?_; intro gb254 hg w16 hbox hb; have BK254 := Aside0.mk (hbox); have GW254 := gs_ hg; have NB250_254 := nl_ hg BK250; have NB254_250 := nr_ hg BK250; have NB252_254 := nl_ hg BK252; have NB254_252 := nr_ hg BK252; replace BK250 := kb_ BK250 hb; replace BK252 := kb_ BK252 hb; replace HB := Aside0.mk (below_step oB hb); clear hb hbox hg; have hnb17 := NB254_250.out; have hnc17 := NB250_254.out; have hnb18 := NB254_252.out; have hnc18 := NB252_254.out; obtain ⟨⟨_, _⟩, _, _⟩ := z2 BK254))
             go_roundg k2
             case measure => have := HK1.out; have := HK2.out; omega
             case rel => exact ⟨(wrap64 (x5_2 + 1)), (wrap64 (x23_2 + 1)), oS, oS, H', ⟨by have := HK1.out; have := HK2.out; omega⟩, ⟨oF BK250⟩, ⟨oF BK252⟩, ⟨oB⟩⟩
            ·rw [if_neg c15] at H
             have c15b0 : (((rd_T65 ((rd_T51 l0_0 x13_1).f4) x23_2).f1) == a1) = false := beq_eq_false_iff_ne.mpr c15
             have c15b1 : (((rd_T65 ((rd_T51 l0_0 x13_1).f4) x23_2).f1) != a1) = true := bne_iff_ne.mpr c15
             have H' := Aside0.mk H
             clear H
             have p253 : (0 ≤ (x23_2 : Int)) = True := oT
             have q253 : (x23_2 < (((rd_T51 l0_0 x13_1).f4).length : Int)) = True := oT
             obtain ⟨ad253, e253, hx253_0, hx253_1⟩ := at_T65 HR251_4.out x23_2 oa oa
             cases e253
             replace hx253_0 := cB HB hx253_0
             replace hx253_1 := cB HB hx253_1
             go_wp2_with (first | ((with_reducible refine gate_dst (N := 9) rfl ?_); refine bx_ 9 #[.string (⟨#[]⟩ : ByteArray), .int .i64 0] 65 ?_; intro gb254 hg w20 hbox hb; have BK254 := Aside0.mk (hbox); have GW254 := gs_ hg; have NB250_254 := nl_ hg BK250; have NB254_250 := nr_ hg BK250; have NB252_254 := nl_ hg BK252; have NB254_252 := nr_ hg BK252; replace BK250 := kb_ BK250 hb; replace BK252 := kb_ BK252 hb; replace HB := Aside0.mk (below_step oB hb); clear hb hbox hg; have hnb21 := NB254_250.out; have hnc21 := NB250_254.out; have hnb22 := NB254_252.out; have hnc22 := NB252_254.out; obtain ⟨⟨_, _⟩, _, _⟩ := z2 BK254))
             go_roundg k2
             case measure => have := HK1.out; have := HK2.out; omega
             case rel => exact ⟨(x5_2), (wrap64 (x23_2 + 1)), oS, oS, H', ⟨by have := HK1.out; have := HK2.out; omega⟩, ⟨oF BK250⟩, ⟨oF BK252⟩, ⟨oB⟩⟩
           ·cases H
          ·cases H
         ·have H' := Aside0.mk H
          clear H
          go_wp2
          go_roundg k2
          case measure => have := HK1.out; have := HK2.out; omega
          case rel => exact ⟨(x5_2), (wrap64 (x13_1 + 1)), oS, oS, H', ⟨by have := HK1.out; have := HK2.out; omega⟩, ⟨oF BK250⟩, ⟨oB⟩⟩
      ·rw [if_neg c8] at H
       have c8b0 : (((rd_T51 l0_0 x13_1).f1) == 2) = false := beq_eq_false_iff_ne.mpr c8
       have c8b1 : (((rd_T51 l0_0 x13_1).f1) != 2) = true := bne_iff_ne.mpr c8
       have H' := Aside0.mk H
       clear H
       have p251 : (0 ≤ (x13_1 : Int)) = True := oT
       have q251 : (x13_1 < (l0_0.length : Int)) = True := oT
       obtain ⟨ad251, A251_3, c251_3, A251_4, c251_4, A251_5, c251_5, e251, hx251_0, hx251_1, hx251_2, hx251_3, hx251_4, hx251_5, hl251_3, hi251_3, hl251_4, hi251_4, hl251_5, hi251_5⟩ := at_T51 HR0_0.out x13_1 oa oa
       cases e251
       replace hx251_0 := cB HB hx251_0
       replace hx251_1 := cB HB hx251_1
       replace hx251_2 := cB HB hx251_2
       replace hx251_3 := cB HB hx251_3
       replace hx251_4 := cB HB hx251_4
       replace hx251_5 := cB HB hx251_5
       have HR251_3 := Aside0.mk hi251_3
       have HC251_3 := Aside0.mk hl251_3
       clear hi251_3 hl251_3
       have HR251_4 := Aside0.mk hi251_4
       have HC251_4 := Aside0.mk hl251_4
       clear hi251_4 hl251_4
       have HR251_5 := Aside0.mk hi251_5
       have HC251_5 := Aside0.mk hl251_5
       clear hi251_5 hl251_5
       go_wp2_with (first | ((with_reducible refine gate_dst (N := 7) rfl ?_); refine bx_ 7 #[.int .i64 0, .int .i64 0, .int .i64 0, .slice none 0 0, .slice none 0 0, .slice none 0 0] 51 ?_; intro gb252 hg w24 hbox hb; have BK252 := Aside0.mk (hbox); have GW252 := gs_ hg; have NB250_252 := nl_ hg BK250; have NB252_250 := nr_ hg BK250; replace BK250 := kb_ BK250 hb; replace HB := Aside0.mk (below_step oB hb); clear hb hbox hg; have hnb25 := NB252_250.out; have hnc25 := NB250_252.out; obtain ⟨⟨_, _, _, _, _, _⟩, _, _, _, _, _, _⟩ := z6 BK252))
       go_roundg k1
       case measure => have := HK1.out; omega
       case rel => exact ⟨(x5_1), (wrap64 (x13_1 + 1)), oS, oS, H', ⟨by have := HK1.out; omega⟩, ⟨oF BK250⟩, ⟨oB⟩⟩
     ·cases H
    ·cases H
   ·obtain rfl := Option.some.inj H
    go_wp2
    go_ret
    exact ⟨oE, oB⟩

end Go.Proofs.YtkcfmbggdkkfeaaGreatDoor.P
