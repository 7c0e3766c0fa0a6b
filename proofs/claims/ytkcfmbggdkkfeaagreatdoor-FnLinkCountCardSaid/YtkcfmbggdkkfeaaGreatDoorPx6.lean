-- By this session's own program (wip/myprint.py) out of the translation; Lean checks it.
import Derived.Test.YtkcfmbggdkkfeaaGreatDoorPx0
import Derived.Test.YtkcfmbggdkkfeaaGreatDoorPx3
import Derived.Test.YtkcfmbggdkkfeaaGreatDoorPx4
import Derived.Test.YtkcfmbggdkkfeaaGreatDoorPx5
namespace Go.Proofs.YtkcfmbggdkkfeaaGreatDoor.P
open Go.RowKit Go.Proofs.YtkcfmbggdkkfeaaGreatDoorW.PrintWords Go.Proofs.YtkcfmbggdkkfeaaGreatDoorW.PrintLast Go.Proofs.YtkcfmbggdkkfeaaGreatDoorW.PrintMore
attribute [local go_sem] max2_int min2_int max_two min_two max_three min_three max_four min_four   -- for this text's walks alone
set_option linter.unusedVariables false
set_option linter.unusedSimpArgs false

/-! ### impl_TabOk: function 38 -/
mutual
def impl_TabOk.j0 : Nat → Bool → List (S51) → Int → Option (Bool)
 | 0, _, _, _ => none
 | k + 1, x16, x161000, x161001 => if x16 = true then (some false) else (impl_TabOk.l0 k x161000 (x161000.length : Int) 0 x161000 x161001)
def impl_TabOk.l0 : Nat → List (S51) → Int → Int → List (S51) → Int → Option (Bool)
 | 0, _, _, _, _, _ => none
 | k + 1, x18, x19, x20, x161000, x161001 => if x20 < x19 then (if 0 ≤ x20 then (if x20 < (x18.length : Int) then ((impl_InodeOk.f k ((rd_T51 x18 x20).f0) ((rd_T51 x18 x20).f1) ((rd_T51 x18 x20).f2) ((rd_T51 x18 x20).f3) ((rd_T51 x18 x20).f4) ((rd_T51 x18 x20).f5)).bind fun t164 => (if t164 = true then (if ((rd_T51 x18 x20).f0) ≥ x161001 then (some false) else (if x20 > 0 then (if 0 ≤ (wrap64 (x20 - 1)) then (if (wrap64 (x20 - 1)) < (x161000.length : Int) then (if ((rd_T51 x161000 (wrap64 (x20 - 1))).f0) ≥ ((rd_T51 x18 x20).f0) then (some false) else (impl_TabOk.l0 k x18 x19 (wrap64 (x20 + 1)) x161000 x161001)) else (none)) else (none)) else (impl_TabOk.l0 k x18 x19 (wrap64 (x20 + 1)) x161000 x161001))) else (some false))) else (none)) else (none)) else ((impl_InodeAt.f k x161000 x161001 1).bind fun bt166 => (if bt166.2.2.2.2.2.2 = true then (some (bt166.2.1 == 2)) else (some false)))
end
def impl_TabOk.f (k : Nat) (l0_0 : List (S51)) (a0_1 : Int) : Option (Bool) := if (l0_0.length : Int) > 30 then (impl_TabOk.j0 k true l0_0 a0_1) else ((impl_from.f a0_1 2 1000).bind fun t161 => (impl_TabOk.j0 k (!t161) l0_0 a0_1))
def impl_TabOk.T6 : Bool × List (List Nat × List Nat) := (true, [([], []), ([0], [0]), ([1], [1]), ([2, 1], [2]), ([3], [3]), ([4, 3], [3, 4]), ([3], [3]), ([6, 3], [3, 6]), ([5, 7, 3], [3, 5, 7]), ([3, 8], [3, 8]), ([9, 3], [9]), ([10], [10]), ([11, 10], [10, 11]), ([12, 10, 10], [10, 12]), ([13], [13]), ([14, 13], [13, 14]), ([13], [13]), ([16, 13], [13, 16]), ([15, 17, 13], [13, 15, 17]), ([18, 13], [13, 18]), ([19, 13], [13, 19]), ([13], [13]), ([21, 13], [13, 21]), ([20, 22, 13], [13, 20, 22]), ([13, 23, 10], [10, 13, 23]), ([10, 24], [10, 24])])
def impl_TabOk.B6 : List Nat := [0, 1, 3, 7, 15, 31, 15, 79, 255, 511, 1023, 2047, 4095, 8191, 16383, 32767, 16383, 81919, 262143, 524287, 1048575, 16383, 2113535, 8388607, 16777215, 33554431]
theorem impl_TabOk.tab6 : rtab .any (opsOf Tryz.f38 6) = impl_TabOk.T6 := by kernel_rfl
theorem impl_TabOk.bits6 : waitsOk impl_TabOk.T6.2 impl_TabOk.B6 = true := by kernel_rfl
set_option maxHeartbeats 8000000 in
set_option maxRecDepth 100000 in
theorem impl_TabOk.calls (k : Nat) (A0_0 : Option Addr) (c0_0 : Nat) (l0_0 : List (S51)) (a0_1 : Int) (r : Bool) (w : World) (hr0_0 : Kd.C k51 w A0_0 l0_0.length l0_0) (hc0_0 : l0_0.length ≤ c0_0) (h : impl_TabOk.f k l0_0 a0_1 = some r) :
  Calls Tryz.prog 38 #[.agg #[.slice A0_0 l0_0.length c0_0, .int .i64 a0_1]] w fun e w' => e = .returned (.bool r) ∧ Below w.heap.size w w' := by
 have hu26 := Tryz.underlying26
 have hu51 := Tryz.underlying51
 have HR0_0 := Aside0.mk hr0_0
 have HC0_0 := Aside0.mk hc0_0
 clear hr0_0 hc0_0
 have HB := Aside0.mk (Below.refl w.heap.size w)
 unfold impl_TabOk.f at h
 have H := h
 clear h
 have HC2 := Aside0.mk H
 clear H
 go_enter Tryz.func38, Tryz.ntmps38
 go_upto_region 1 with (first | ((with_reducible refine gate_dst (N := 1) rfl ?_); refine bx_ 1 #[.slice A0_0 l0_0.length c0_0, .int .i64 a0_1] 26 ?_; intro gb160 hg w3 hbox hb; have BK160 := Aside0.mk (hbox); have GW160 := gs_ hg; replace HB := Aside0.mk (below_step oB hb); clear hb hbox hg))
 (try simp only [Act.put, List.setIfInBounds_toArray, List.set_cons_zero, List.set_cons_succ])
 go_cut [16] (fun v16 wc => ∃ (kq : Nat) (x16_1 : Bool), v16 = .bool x16_1 ∧ Aside0 (impl_TabOk.j0 kq x16_1 l0_0 a0_1 = some r) ∧ Aside0 (kq ≤ k) ∧ Aside0 (wc.heap[gb160]? = some (.cells #[(.slice A0_0 l0_0.length c0_0), .int .i64 a0_1] 26 (0, 0))) ∧ Aside0 (Below w.heap.size w wc))
 case first =>
  have H := HC2.out
  clear HC2
  by_cases c4 : (l0_0.length : Int) > 30
  ·rw [if_pos c4] at H
   have c4b0 : decide (30 < (l0_0.length : Int)) = true := decide_eq_true c4
   have c4b1 : decide (30 < l0_0.length) = true := decide_eq_true (by omega)
   clear c4
   (first | rw [c4b0] | rw [c4b2] | (simp only [i64_w, i32_w]; rw [c4b0]) | skip)
   have H' := Aside0.mk H
   clear H
   obtain ⟨⟨_, _⟩, _, _⟩ := z2 BK160
   go_wp2
   go_meet
   case rel => exact ⟨_, (true), oS, H', ⟨by first | omega | exact Nat.le_refl _⟩, ⟨oF BK160⟩, ⟨oB⟩⟩
  ·rw [if_neg c4] at H
   have c4b0 : decide (30 < (l0_0.length : Int)) = false := decide_eq_false c4
   have c4b1 : decide (30 < l0_0.length) = false := decide_eq_false (by omega)
   clear c4
   (first | rw [c4b0] | rw [c4b2] | (simp only [i64_w, i32_w]; rw [c4b0]) | skip)
   replace H := bA H
   obtain ⟨t161, A6, H⟩ := H
   try dsimp only at H
   have H' := Aside0.mk H
   clear H
   obtain ⟨⟨_, _⟩, _, _⟩ := z2 BK160
   go_wp2_with (first | (go_at_call 47; (with_reducible refine (impl_from.calls a0_1 2 1000 t161 _ A6.out).mono ?_); rintro e w' ⟨rfl, ⟨nd, rfl⟩⟩))
   go_meet
   case rel => exact ⟨_, (!t161), oS, H', ⟨by first | omega | exact Nat.le_refl _⟩, ⟨oF BK160⟩, ⟨oB⟩⟩
 case rest =>
  clear HC2
  obtain ⟨kq, x16_1, rfl, HA, HJ1, BK160, HB⟩ := hcut
  cases kq with
  | zero => exact absurd HA.out (by simp [impl_TabOk.j0])
  | succ kj1 =>
   have H := HA.out
   clear HA
   simp only [impl_TabOk.j0] at H
   replace H := itB H
   rcases H with ⟨rfl, H⟩ | ⟨rfl, H⟩
   ·obtain rfl := Option.some.inj H
    go_wp2
    go_ret
    exact ⟨oE, oB⟩
   ·have H' := Aside0.mk H
    clear H
    obtain ⟨⟨_, _⟩, _, _⟩ := z2 BK160
    go_wp2
    go_loopg [20] kj1 (fun kq v20 w' => ∃ (x20_2 : Int), v20 = .int .i64 x20_2 ∧ Aside0 (impl_TabOk.l0 kq l0_0 (l0_0.length : Int) x20_2 l0_0 a0_1 = some r) ∧ Aside0 (kq ≤ kj1) ∧ Aside0 (w'.heap[gb160]? = some (.cells #[(.slice A0_0 l0_0.length c0_0), .int .i64 a0_1] 26 (0, 0))) ∧ Aside0 (Below w.heap.size w w'))
    case atStart => exact ⟨(0), oS, H', ⟨Nat.le_refl _⟩, ⟨oF BK160⟩, ⟨oB⟩⟩
    case round =>
     clear H'
     obtain ⟨x20_2, rfl, HA, HK2, BK160, HB⟩ := hrel
     cases gk with
     | zero => exact absurd HA.out (by simp [impl_TabOk.l0])
     | succ k2 =>
      have H := HA.out
      clear HA
      simp only [impl_TabOk.l0] at H
      replace H := itD H
      rcases H with ⟨c10b0, H⟩ | ⟨c10b0, H⟩
      ·replace H := itD H
       rcases H with ⟨c11b0, H⟩ | ⟨c11b0, H⟩
       ·replace H := itD H
        rcases H with ⟨c12b0, H⟩ | ⟨c12b0, H⟩
        ·replace H := bA H
         obtain ⟨t164, A13, H⟩ := H
         try dsimp only at H
         replace H := itB H
         rcases H with ⟨rfl, H⟩ | ⟨rfl, H⟩
         ·replace H := itH H
          rcases H with ⟨c15b0, H⟩ | ⟨c15b0, H⟩
          ·obtain rfl := Option.some.inj H
           have p162 : (0 ≤ (x20_2 : Int)) = True := oT
           have q162 : (x20_2 < (l0_0.length : Int)) = True := oT
           obtain ⟨ad162, A162_3, c162_3, A162_4, c162_4, A162_5, c162_5, e162, hx162_0, hx162_1, hx162_2, hx162_3, hx162_4, hx162_5, hl162_3, hi162_3, hl162_4, hi162_4, hl162_5, hi162_5⟩ := at_T51 HR0_0.out x20_2 oa oa
           cases e162
           replace hx162_0 := cB HB hx162_0
           replace hx162_1 := cB HB hx162_1
           replace hx162_2 := cB HB hx162_2
           replace hx162_3 := cB HB hx162_3
           replace hx162_4 := cB HB hx162_4
           replace hx162_5 := cB HB hx162_5
           have HR162_3 := Aside0.mk hi162_3
           have HC162_3 := Aside0.mk hl162_3
           clear hi162_3 hl162_3
           have HR162_4 := Aside0.mk hi162_4
           have HC162_4 := Aside0.mk hl162_4
           clear hi162_4 hl162_4
           have HR162_5 := Aside0.mk hi162_5
           have HC162_5 := Aside0.mk hl162_5
           clear hi162_5 hl162_5
           try go_wp2_with (first | ((with_reducible refine gate_dst (N := 4) rfl ?_); refine bx_ 4 #[.int .i64 0, .int .i64 0, .int .i64 0, .slice none 0 0, .slice none 0 0, .slice none 0 0] 51 ?_; intro gb163 hg w16 hbox hb; have BK163 := Aside0.mk (hbox); have GW163 := gs_ hg; have NB160_163 := nl_ hg BK160; have NB163_160 := nr_ hg BK160; replace BK160 := kb_ BK160 hb; replace HB := Aside0.mk (below_step oB hb); clear hb hbox hg; have hnb17 := NB163_160.out; have hnc17 := NB160_163.out; obtain ⟨⟨_, _, _, _, _, _⟩, _, _, _, _, _, _⟩ := z6 BK163))
           generalize hW_ : ((((((w16.setCell ⟨gb163, 0, none⟩ (.int .i64 ((rd_T51 l0_0 x20_2).f0))).setCell ⟨gb163, 1, none⟩ (.int .i64 ((rd_T51 l0_0 x20_2).f1))).setCell ⟨gb163, 2, none⟩ (.int .i64 ((rd_T51 l0_0 x20_2).f2))).setCell ⟨gb163, 3, none⟩ (.slice A162_3 ((rd_T51 l0_0 x20_2).f3).length c162_3)).setCell ⟨gb163, 4, none⟩ (.slice A162_4 ((rd_T51 l0_0 x20_2).f4).length c162_4)).setCell ⟨gb163, 5, none⟩ (.slice A162_5 ((rd_T51 l0_0 x20_2).f5).length c162_5)) = w19
           replace BK160 := kw_ hW_ BK160
           replace BK163 := kv_ #[.int .i64 ((rd_T51 l0_0 x20_2).f0), .int .i64 ((rd_T51 l0_0 x20_2).f1), .int .i64 ((rd_T51 l0_0 x20_2).f2), .slice A162_3 ((rd_T51 l0_0 x20_2).f3).length c162_3, .slice A162_4 ((rd_T51 l0_0 x20_2).f4).length c162_4, .slice A162_5 ((rd_T51 l0_0 x20_2).f5).length c162_5] hW_ BK163
           replace HB := hw_ hW_ HB
           clear hW_
           replace BK160 := Aside0.mk (blk_drew BK160.out)
           replace BK163 := Aside0.mk (blk_drew BK163.out)
           replace HB := Aside0.mk (below_drew1 HB.out)
           refine st_ 26 (fun w' => w'.cell? ⟨gb163, 0, none⟩ = some (.int .i64 ((rd_T51 l0_0 x20_2).f0)) ∧ w'.cell? ⟨gb163, 1, none⟩ = some (.int .i64 ((rd_T51 l0_0 x20_2).f1)) ∧ w'.cell? ⟨gb163, 2, none⟩ = some (.int .i64 ((rd_T51 l0_0 x20_2).f2)) ∧ w'.cell? ⟨gb163, 3, none⟩ = some (.slice A162_3 ((rd_T51 l0_0 x20_2).f3).length c162_3) ∧ w'.cell? ⟨gb163, 4, none⟩ = some (.slice A162_4 ((rd_T51 l0_0 x20_2).f4).length c162_4) ∧ w'.cell? ⟨gb163, 5, none⟩ = some (.slice A162_5 ((rd_T51 l0_0 x20_2).f5).length c162_5) ∧ w'.cell? ⟨gb160, 0, none⟩ = some (.slice (some ad162) l0_0.length c0_0) ∧ w'.cell? ⟨gb160, 1, none⟩ = some (.int .i64 a0_1)) impl_TabOk.tab6 impl_TabOk.bits6 oH (fun hHeld HT_ HW_ => ?_)
           generalize w19.drew = w20 at BK160 BK163 HB hHeld ⊢
           refine ta_ 0 25 HT_ HW_ hHeld ?_
           refine on_ 1 26 HT_ (fun K hK => ?_)
           refine gr_ 26 Tryz.func66 (impl_InodeOk.calls k2 ((rd_T51 l0_0 x20_2).f0) ((rd_T51 l0_0 x20_2).f1) ((rd_T51 l0_0 x20_2).f2) _ _ ((rd_T51 l0_0 x20_2).f3) _ _ ((rd_T51 l0_0 x20_2).f4) _ _ ((rd_T51 l0_0 x20_2).f5) true _ (kC HR162_3) HC162_3.out (kC HR162_4) HC162_4.out (kC HR162_5) HC162_5.out A13.out) ?_
           rintro e w21 ⟨rfl, hb⟩
           refine ⟨_, rfl, ?_⟩
           replace BK160 := kb_ BK160 hb
           replace BK163 := kb_ BK163 hb
           replace HB := Aside0.mk (below_step oB hb)
           refine hk_ hK 26 oH (fun hHeld => ?_)
           clear hK K
           refine pu_ 2 27 HT_ ?_
           refine pu_ 3 28 HT_ ?_
           refine pu_ 4 29 HT_ ?_
           refine pu_ 6 31 HT_ ?_
           refine ta_ 5 30 HT_ HW_ hHeld ?_
           refine ta_ 7 32 HT_ HW_ hHeld ?_
           refine pu_ 8 33 HT_ ?_
           refine pu_ 9 34 HT_ ?_
           refine pu_ 10 35 HT_ ?_
           refine pn_ 11 36 HT_ ?_
           refine pn_ 12 37 HT_ ?_
           refine pn_ 13 38 HT_ ?_
           refine pn_ 14 39 HT_ ?_
           refine pn_ 15 40 HT_ ?_
           refine pn_ 16 41 HT_ ?_
           refine pn_ 17 42 HT_ ?_
           refine pn_ 18 43 HT_ ?_
           refine pn_ 19 44 HT_ ?_
           refine pn_ 20 45 HT_ ?_
           refine pn_ 21 46 HT_ ?_
           refine pn_ 22 47 HT_ ?_
           refine pn_ 23 48 HT_ ?_
           refine pn_ 24 49 HT_ ?_
           refine pu_ 25 50 HT_ ?_
           refine dn_ HT_ ?_
           try go_wp2
           go_ret
           exact ⟨oE, oB⟩
          ·replace H := itG H
           rcases H with ⟨c22b0, H⟩ | ⟨c22b0, H⟩
           ·obtain ⟨ji23, hji23⟩ : ∃ j_ : Int, (wrap64 (x20_2 - 1)) = j_ := ⟨_, rfl⟩
            replace H : (if 0 ≤ (ji23) then (if (ji23) < (l0_0.length : Int) then (if ((rd_T51 l0_0 (ji23)).f0) ≥ ((rd_T51 l0_0 x20_2).f0) then (some false) else (impl_TabOk.l0 k2 l0_0 (l0_0.length : Int) (wrap64 (x20_2 + 1)) l0_0 a0_1)) else (none)) else (none)) = some r := by first | (rw [hji23] at H; exact H) | (simp only [hji23] at H ⊢; exact H)
            (try rw [hji23] at A13)
            have hji23w : (IntKind.i64.wrap (x20_2 - 1)) = ji23 := (i64_w _).trans hji23
            replace H := itD H
            rcases H with ⟨c24b0, H⟩ | ⟨c24b0, H⟩
            ·replace H := itD H
             rcases H with ⟨c25b0, H⟩ | ⟨c25b0, H⟩
             ·replace H := itH H
              rcases H with ⟨c26b0, H⟩ | ⟨c26b0, H⟩
              ·obtain rfl := Option.some.inj H
               have p162 : (0 ≤ (x20_2 : Int)) = True := oT
               have q162 : (x20_2 < (l0_0.length : Int)) = True := oT
               obtain ⟨ad162, A162_3, c162_3, A162_4, c162_4, A162_5, c162_5, e162, hx162_0, hx162_1, hx162_2, hx162_3, hx162_4, hx162_5, hl162_3, hi162_3, hl162_4, hi162_4, hl162_5, hi162_5⟩ := at_T51 HR0_0.out x20_2 oa oa
               cases e162
               replace hx162_0 := cB HB hx162_0
               replace hx162_1 := cB HB hx162_1
               replace hx162_2 := cB HB hx162_2
               replace hx162_3 := cB HB hx162_3
               replace hx162_4 := cB HB hx162_4
               replace hx162_5 := cB HB hx162_5
               have HR162_3 := Aside0.mk hi162_3
               have HC162_3 := Aside0.mk hl162_3
               clear hi162_3 hl162_3
               have HR162_4 := Aside0.mk hi162_4
               have HC162_4 := Aside0.mk hl162_4
               clear hi162_4 hl162_4
               have HR162_5 := Aside0.mk hi162_5
               have HC162_5 := Aside0.mk hl162_5
               clear hi162_5 hl162_5
               try go_wp2_with (first | ((with_reducible refine gate_dst (N := 4) rfl ?_); refine bx_ 4 #[.int .i64 0, .int .i64 0, .int .i64 0, .slice none 0 0, .slice none 0 0, .slice none 0 0] 51 ?_; intro gb163 hg w27 hbox hb; have BK163 := Aside0.mk (hbox); have GW163 := gs_ hg; have NB160_163 := nl_ hg BK160; have NB163_160 := nr_ hg BK160; replace BK160 := kb_ BK160 hb; replace HB := Aside0.mk (below_step oB hb); clear hb hbox hg; have hnb28 := NB163_160.out; have hnc28 := NB160_163.out; obtain ⟨⟨_, _, _, _, _, _⟩, _, _, _, _, _, _⟩ := z6 BK163))
               generalize hW_ : ((((((w27.setCell ⟨gb163, 0, none⟩ (.int .i64 ((rd_T51 l0_0 x20_2).f0))).setCell ⟨gb163, 1, none⟩ (.int .i64 ((rd_T51 l0_0 x20_2).f1))).setCell ⟨gb163, 2, none⟩ (.int .i64 ((rd_T51 l0_0 x20_2).f2))).setCell ⟨gb163, 3, none⟩ (.slice A162_3 ((rd_T51 l0_0 x20_2).f3).length c162_3)).setCell ⟨gb163, 4, none⟩ (.slice A162_4 ((rd_T51 l0_0 x20_2).f4).length c162_4)).setCell ⟨gb163, 5, none⟩ (.slice A162_5 ((rd_T51 l0_0 x20_2).f5).length c162_5)) = w30
               replace BK160 := kw_ hW_ BK160
               replace BK163 := kv_ #[.int .i64 ((rd_T51 l0_0 x20_2).f0), .int .i64 ((rd_T51 l0_0 x20_2).f1), .int .i64 ((rd_T51 l0_0 x20_2).f2), .slice A162_3 ((rd_T51 l0_0 x20_2).f3).length c162_3, .slice A162_4 ((rd_T51 l0_0 x20_2).f4).length c162_4, .slice A162_5 ((rd_T51 l0_0 x20_2).f5).length c162_5] hW_ BK163
               replace HB := hw_ hW_ HB
               clear hW_
               replace BK160 := Aside0.mk (blk_drew BK160.out)
               replace BK163 := Aside0.mk (blk_drew BK163.out)
               replace HB := Aside0.mk (below_drew1 HB.out)
               have p165 : (0 ≤ ((ji23) : Int)) = True := oT
               have q165 : ((ji23) < (l0_0.length : Int)) = True := oT
               obtain ⟨ad165, A165_3, c165_3, A165_4, c165_4, A165_5, c165_5, e165, hx165_0, hx165_1, hx165_2, hx165_3, hx165_4, hx165_5, hl165_3, hi165_3, hl165_4, hi165_4, hl165_5, hi165_5⟩ := at_T51 HR0_0.out (ji23) oa oa
               have hw165_5 := hx165_5
               have hw165_4 := hx165_4
               have hw165_3 := hx165_3
               have hw165_2 := hx165_2
               have hw165_1 := hx165_1
               have hw165_0 := hx165_0
               obtain rfl : ad162 = ad165 := (by injection e165)
               replace hx165_0 := cB HB hx165_0
               replace hx165_1 := cB HB hx165_1
               replace hx165_2 := cB HB hx165_2
               replace hx165_3 := cB HB hx165_3
               replace hx165_4 := cB HB hx165_4
               replace hx165_5 := cB HB hx165_5
               have HR165_3 := Aside0.mk hi165_3
               have HC165_3 := Aside0.mk hl165_3
               clear hi165_3 hl165_3
               have HR165_4 := Aside0.mk hi165_4
               have HC165_4 := Aside0.mk hl165_4
               clear hi165_4 hl165_4
               have HR165_5 := Aside0.mk hi165_5
               have HC165_5 := Aside0.mk hl165_5
               clear hi165_5 hl165_5
               refine st_ 26 (fun w' => w'.cell? ⟨gb163, 0, none⟩ = some (.int .i64 ((rd_T51 l0_0 x20_2).f0)) ∧ w'.cell? ⟨gb163, 1, none⟩ = some (.int .i64 ((rd_T51 l0_0 x20_2).f1)) ∧ w'.cell? ⟨gb163, 2, none⟩ = some (.int .i64 ((rd_T51 l0_0 x20_2).f2)) ∧ w'.cell? ⟨gb163, 3, none⟩ = some (.slice A162_3 ((rd_T51 l0_0 x20_2).f3).length c162_3) ∧ w'.cell? ⟨gb163, 4, none⟩ = some (.slice A162_4 ((rd_T51 l0_0 x20_2).f4).length c162_4) ∧ w'.cell? ⟨gb163, 5, none⟩ = some (.slice A162_5 ((rd_T51 l0_0 x20_2).f5).length c162_5) ∧ w'.cell? ⟨gb160, 0, none⟩ = some (.slice (some ad162) l0_0.length c0_0) ∧ w'.cell? ⟨gb160, 1, none⟩ = some (.int .i64 a0_1) ∧ w'.cell? (ad162.add (((ji23)).toNat * 6)) = some (.int .i64 ((rd_T51 l0_0 (ji23)).f0)) ∧ w'.cell? ⟨(ad162.add (((ji23)).toNat * 6)).block, (ad162.add (((ji23)).toNat * 6)).off + 1, none⟩ = some (.int .i64 ((rd_T51 l0_0 (ji23)).f1)) ∧ w'.cell? ⟨(ad162.add (((ji23)).toNat * 6)).block, (ad162.add (((ji23)).toNat * 6)).off + 2, none⟩ = some (.int .i64 ((rd_T51 l0_0 (ji23)).f2)) ∧ w'.cell? ⟨(ad162.add (((ji23)).toNat * 6)).block, (ad162.add (((ji23)).toNat * 6)).off + 3, none⟩ = some (.slice A165_3 ((rd_T51 l0_0 (ji23)).f3).length c165_3) ∧ w'.cell? ⟨(ad162.add (((ji23)).toNat * 6)).block, (ad162.add (((ji23)).toNat * 6)).off + 4, none⟩ = some (.slice A165_4 ((rd_T51 l0_0 (ji23)).f4).length c165_4) ∧ w'.cell? ⟨(ad162.add (((ji23)).toNat * 6)).block, (ad162.add (((ji23)).toNat * 6)).off + 5, none⟩ = some (.slice A165_5 ((rd_T51 l0_0 (ji23)).f5).length c165_5)) impl_TabOk.tab6 impl_TabOk.bits6 oH (fun hHeld HT_ HW_ => ?_)
               generalize w30.drew = w31 at BK160 BK163 HB HR165_3 HR165_4 HR165_5 hx165_0 hx165_1 hx165_2 hx165_3 hx165_4 hx165_5 hHeld ⊢
               refine ta_ 0 25 HT_ HW_ hHeld ?_
               refine on_ 1 26 HT_ (fun K hK => ?_)
               refine gr_ 26 Tryz.func66 (impl_InodeOk.calls k2 ((rd_T51 l0_0 x20_2).f0) ((rd_T51 l0_0 x20_2).f1) ((rd_T51 l0_0 x20_2).f2) _ _ ((rd_T51 l0_0 x20_2).f3) _ _ ((rd_T51 l0_0 x20_2).f4) _ _ ((rd_T51 l0_0 x20_2).f5) true _ (kC HR162_3) HC162_3.out (kC HR162_4) HC162_4.out (kC HR162_5) HC162_5.out A13.out) ?_
               rintro e w32 ⟨rfl, hb⟩
               refine ⟨_, rfl, ?_⟩
               replace BK160 := kb_ BK160 hb
               replace BK163 := kb_ BK163 hb
               replace HB := Aside0.mk (below_step oB hb)
               refine hk_ hK 26 oH (fun hHeld => ?_)
               clear hK K
               refine pu_ 2 27 HT_ ?_
               refine pu_ 3 28 HT_ ?_
               refine pu_ 4 29 HT_ ?_
               refine pu_ 6 31 HT_ ?_
               refine ta_ 5 30 HT_ HW_ hHeld ?_
               refine ta_ 7 32 HT_ HW_ hHeld ?_
               refine pu_ 8 33 HT_ ?_
               refine pu_ 9 34 HT_ ?_
               refine pu_ 10 35 HT_ ?_
               refine pu_ 11 36 HT_ ?_
               refine pu_ 12 37 HT_ ?_
               refine pu_ 13 38 HT_ ?_
               refine pu_ 14 39 HT_ ?_
               refine pu_ 16 41 HT_ ?_
               refine pu_ 17 42 HT_ ?_
               refine pu_ 21 46 HT_ ?_
               refine ta_ 15 40 HT_ HW_ hHeld ?_
               refine pu_ 18 43 HT_ ?_
               refine pu_ 19 44 HT_ ?_
               refine ta_ 20 45 HT_ HW_ hHeld ?_
               refine ta_ 22 47 HT_ HW_ hHeld ?_
               refine pu_ 23 48 HT_ ?_
               refine pu_ 24 49 HT_ ?_
               refine pu_ 25 50 HT_ ?_
               refine dn_ HT_ ?_
               try go_wp2
               go_ret
               exact ⟨by first | rfl | (simp [errW_none, errW_some] <;> rfl) | (simp only [← hji23]; first | rfl | (simp [errW_none, errW_some] <;> rfl)) | (simp [*, errW_none, errW_some] <;> rfl), oB⟩
              ·have H' := Aside0.mk H
               clear H
               have p162 : (0 ≤ (x20_2 : Int)) = True := oT
               have q162 : (x20_2 < (l0_0.length : Int)) = True := oT
               obtain ⟨ad162, A162_3, c162_3, A162_4, c162_4, A162_5, c162_5, e162, hx162_0, hx162_1, hx162_2, hx162_3, hx162_4, hx162_5, hl162_3, hi162_3, hl162_4, hi162_4, hl162_5, hi162_5⟩ := at_T51 HR0_0.out x20_2 oa oa
               cases e162
               replace hx162_0 := cB HB hx162_0
               replace hx162_1 := cB HB hx162_1
               replace hx162_2 := cB HB hx162_2
               replace hx162_3 := cB HB hx162_3
               replace hx162_4 := cB HB hx162_4
               replace hx162_5 := cB HB hx162_5
               have HR162_3 := Aside0.mk hi162_3
               have HC162_3 := Aside0.mk hl162_3
               clear hi162_3 hl162_3
               have HR162_4 := Aside0.mk hi162_4
               have HC162_4 := Aside0.mk hl162_4
               clear hi162_4 hl162_4
               have HR162_5 := Aside0.mk hi162_5
               have HC162_5 := Aside0.mk hl162_5
               clear hi162_5 hl162_5
               try go_wp2_with (first | ((with_reducible refine gate_dst (N := 4) rfl ?_); refine bx_ 4 #[.int .i64 0, .int .i64 0, .int .i64 0, .slice none 0 0, .slice none 0 0, .slice none 0 0] 51 ?_; intro gb163 hg w33 hbox hb; have BK163 := Aside0.mk (hbox); have GW163 := gs_ hg; have NB160_163 := nl_ hg BK160; have NB163_160 := nr_ hg BK160; replace BK160 := kb_ BK160 hb; replace HB := Aside0.mk (below_step oB hb); clear hb hbox hg; have hnb34 := NB163_160.out; have hnc34 := NB160_163.out; obtain ⟨⟨_, _, _, _, _, _⟩, _, _, _, _, _, _⟩ := z6 BK163))
               generalize hW_ : ((((((w33.setCell ⟨gb163, 0, none⟩ (.int .i64 ((rd_T51 l0_0 x20_2).f0))).setCell ⟨gb163, 1, none⟩ (.int .i64 ((rd_T51 l0_0 x20_2).f1))).setCell ⟨gb163, 2, none⟩ (.int .i64 ((rd_T51 l0_0 x20_2).f2))).setCell ⟨gb163, 3, none⟩ (.slice A162_3 ((rd_T51 l0_0 x20_2).f3).length c162_3)).setCell ⟨gb163, 4, none⟩ (.slice A162_4 ((rd_T51 l0_0 x20_2).f4).length c162_4)).setCell ⟨gb163, 5, none⟩ (.slice A162_5 ((rd_T51 l0_0 x20_2).f5).length c162_5)) = w36
               replace BK160 := kw_ hW_ BK160
               replace BK163 := kv_ #[.int .i64 ((rd_T51 l0_0 x20_2).f0), .int .i64 ((rd_T51 l0_0 x20_2).f1), .int .i64 ((rd_T51 l0_0 x20_2).f2), .slice A162_3 ((rd_T51 l0_0 x20_2).f3).length c162_3, .slice A162_4 ((rd_T51 l0_0 x20_2).f4).length c162_4, .slice A162_5 ((rd_T51 l0_0 x20_2).f5).length c162_5] hW_ BK163
               replace HB := hw_ hW_ HB
               clear hW_
               replace BK160 := Aside0.mk (blk_drew BK160.out)
               replace BK163 := Aside0.mk (blk_drew BK163.out)
               replace HB := Aside0.mk (below_drew1 HB.out)
               have p165 : (0 ≤ ((ji23) : Int)) = True := oT
               have q165 : ((ji23) < (l0_0.length : Int)) = True := oT
               obtain ⟨ad165, A165_3, c165_3, A165_4, c165_4, A165_5, c165_5, e165, hx165_0, hx165_1, hx165_2, hx165_3, hx165_4, hx165_5, hl165_3, hi165_3, hl165_4, hi165_4, hl165_5, hi165_5⟩ := at_T51 HR0_0.out (ji23) oa oa
               have hw165_5 := hx165_5
               have hw165_4 := hx165_4
               have hw165_3 := hx165_3
               have hw165_2 := hx165_2
               have hw165_1 := hx165_1
               have hw165_0 := hx165_0
               obtain rfl : ad162 = ad165 := (by injection e165)
               replace hx165_0 := cB HB hx165_0
               replace hx165_1 := cB HB hx165_1
               replace hx165_2 := cB HB hx165_2
               replace hx165_3 := cB HB hx165_3
               replace hx165_4 := cB HB hx165_4
               replace hx165_5 := cB HB hx165_5
               have HR165_3 := Aside0.mk hi165_3
               have HC165_3 := Aside0.mk hl165_3
               clear hi165_3 hl165_3
               have HR165_4 := Aside0.mk hi165_4
               have HC165_4 := Aside0.mk hl165_4
               clear hi165_4 hl165_4
               have HR165_5 := Aside0.mk hi165_5
               have HC165_5 := Aside0.mk hl165_5
               clear hi165_5 hl165_5
               refine st_ 26 (fun w' => w'.cell? ⟨gb163, 0, none⟩ = some (.int .i64 ((rd_T51 l0_0 x20_2).f0)) ∧ w'.cell? ⟨gb163, 1, none⟩ = some (.int .i64 ((rd_T51 l0_0 x20_2).f1)) ∧ w'.cell? ⟨gb163, 2, none⟩ = some (.int .i64 ((rd_T51 l0_0 x20_2).f2)) ∧ w'.cell? ⟨gb163, 3, none⟩ = some (.slice A162_3 ((rd_T51 l0_0 x20_2).f3).length c162_3) ∧ w'.cell? ⟨gb163, 4, none⟩ = some (.slice A162_4 ((rd_T51 l0_0 x20_2).f4).length c162_4) ∧ w'.cell? ⟨gb163, 5, none⟩ = some (.slice A162_5 ((rd_T51 l0_0 x20_2).f5).length c162_5) ∧ w'.cell? ⟨gb160, 0, none⟩ = some (.slice (some ad162) l0_0.length c0_0) ∧ w'.cell? ⟨gb160, 1, none⟩ = some (.int .i64 a0_1) ∧ w'.cell? (ad162.add (((ji23)).toNat * 6)) = some (.int .i64 ((rd_T51 l0_0 (ji23)).f0)) ∧ w'.cell? ⟨(ad162.add (((ji23)).toNat * 6)).block, (ad162.add (((ji23)).toNat * 6)).off + 1, none⟩ = some (.int .i64 ((rd_T51 l0_0 (ji23)).f1)) ∧ w'.cell? ⟨(ad162.add (((ji23)).toNat * 6)).block, (ad162.add (((ji23)).toNat * 6)).off + 2, none⟩ = some (.int .i64 ((rd_T51 l0_0 (ji23)).f2)) ∧ w'.cell? ⟨(ad162.add (((ji23)).toNat * 6)).block, (ad162.add (((ji23)).toNat * 6)).off + 3, none⟩ = some (.slice A165_3 ((rd_T51 l0_0 (ji23)).f3).length c165_3) ∧ w'.cell? ⟨(ad162.add (((ji23)).toNat * 6)).block, (ad162.add (((ji23)).toNat * 6)).off + 4, none⟩ = some (.slice A165_4 ((rd_T51 l0_0 (ji23)).f4).length c165_4) ∧ w'.cell? ⟨(ad162.add (((ji23)).toNat * 6)).block, (ad162.add (((ji23)).toNat * 6)).off + 5, none⟩ = some (.slice A165_5 ((rd_T51 l0_0 (ji23)).f5).length c165_5)) impl_TabOk.tab6 impl_TabOk.bits6 oH (fun hHeld HT_ HW_ => ?_)
               generalize w36.drew = w37 at BK160 BK163 HB HR165_3 HR165_4 HR165_5 hx165_0 hx165_1 hx165_2 hx165_3 hx165_4 hx165_5 hHeld ⊢
               refine ta_ 0 25 HT_ HW_ hHeld ?_
               refine on_ 1 26 HT_ (fun K hK => ?_)
               refine gr_ 26 Tryz.func66 (impl_InodeOk.calls k2 ((rd_T51 l0_0 x20_2).f0) ((rd_T51 l0_0 x20_2).f1) ((rd_T51 l0_0 x20_2).f2) _ _ ((rd_T51 l0_0 x20_2).f3) _ _ ((rd_T51 l0_0 x20_2).f4) _ _ ((rd_T51 l0_0 x20_2).f5) true _ (kC HR162_3) HC162_3.out (kC HR162_4) HC162_4.out (kC HR162_5) HC162_5.out A13.out) ?_
               rintro e w38 ⟨rfl, hb⟩
               refine ⟨_, rfl, ?_⟩
               replace BK160 := kb_ BK160 hb
               replace BK163 := kb_ BK163 hb
               replace HB := Aside0.mk (below_step oB hb)
               refine hk_ hK 26 oH (fun hHeld => ?_)
               clear hK K
               refine pu_ 2 27 HT_ ?_
               refine pu_ 3 28 HT_ ?_
               refine pu_ 4 29 HT_ ?_
               refine pu_ 6 31 HT_ ?_
               refine ta_ 5 30 HT_ HW_ hHeld ?_
               refine ta_ 7 32 HT_ HW_ hHeld ?_
               refine pu_ 8 33 HT_ ?_
               refine pu_ 9 34 HT_ ?_
               refine pu_ 10 35 HT_ ?_
               refine pu_ 11 36 HT_ ?_
               refine pu_ 12 37 HT_ ?_
               refine pu_ 13 38 HT_ ?_
               refine pu_ 14 39 HT_ ?_
               refine pu_ 16 41 HT_ ?_
               refine pu_ 17 42 HT_ ?_
               refine pu_ 21 46 HT_ ?_
               refine ta_ 15 40 HT_ HW_ hHeld ?_
               refine pu_ 18 43 HT_ ?_
               refine pu_ 19 44 HT_ ?_
               refine ta_ 20 45 HT_ HW_ hHeld ?_
               refine ta_ 22 47 HT_ HW_ hHeld ?_
               refine pu_ 23 48 HT_ ?_
               refine pu_ 24 49 HT_ ?_
               refine pu_ 25 50 HT_ ?_
               refine dn_ HT_ ?_
               try go_wp2
               go_roundg k2
               case measure => have := HJ1.out; have := HK2.out; omega
               case rel => exact ⟨(wrap64 (x20_2 + 1)), oS, H', ⟨by have := HJ1.out; have := HK2.out; omega⟩, ⟨oF BK160⟩, ⟨oB⟩⟩
             ·cases H
            ·cases H
           ·have H' := Aside0.mk H
            clear H
            have p162 : (0 ≤ (x20_2 : Int)) = True := oT
            have q162 : (x20_2 < (l0_0.length : Int)) = True := oT
            obtain ⟨ad162, A162_3, c162_3, A162_4, c162_4, A162_5, c162_5, e162, hx162_0, hx162_1, hx162_2, hx162_3, hx162_4, hx162_5, hl162_3, hi162_3, hl162_4, hi162_4, hl162_5, hi162_5⟩ := at_T51 HR0_0.out x20_2 oa oa
            cases e162
            replace hx162_0 := cB HB hx162_0
            replace hx162_1 := cB HB hx162_1
            replace hx162_2 := cB HB hx162_2
            replace hx162_3 := cB HB hx162_3
            replace hx162_4 := cB HB hx162_4
            replace hx162_5 := cB HB hx162_5
            have HR162_3 := Aside0.mk hi162_3
            have HC162_3 := Aside0.mk hl162_3
            clear hi162_3 hl162_3
            have HR162_4 := Aside0.mk hi162_4
            have HC162_4 := Aside0.mk hl162_4
            clear hi162_4 hl162_4
            have HR162_5 := Aside0.mk hi162_5
            have HC162_5 := Aside0.mk hl162_5
            clear hi162_5 hl162_5
            try go_wp2_with (first | ((with_reducible refine gate_dst (N := 4) rfl ?_); refine bx_ 4 #[.int .i64 0, .int .i64 0, .int .i64 0, .slice none 0 0, .slice none 0 0, .slice none 0 0] 51 ?_; intro gb163 hg w39 hbox hb; have BK163 := Aside0.mk (hbox); have GW163 := gs_ hg; have NB160_163 := nl_ hg BK160; have NB163_160 := nr_ hg BK160; replace BK160 := kb_ BK160 hb; replace HB := Aside0.mk (below_step oB hb); clear hb hbox hg; have hnb40 := NB163_160.out; have hnc40 := NB160_163.out; obtain ⟨⟨_, _, _, _, _, _⟩, _, _, _, _, _, _⟩ := z6 BK163))
            generalize hW_ : ((((((w39.setCell ⟨gb163, 0, none⟩ (.int .i64 ((rd_T51 l0_0 x20_2).f0))).setCell ⟨gb163, 1, none⟩ (.int .i64 ((rd_T51 l0_0 x20_2).f1))).setCell ⟨gb163, 2, none⟩ (.int .i64 ((rd_T51 l0_0 x20_2).f2))).setCell ⟨gb163, 3, none⟩ (.slice A162_3 ((rd_T51 l0_0 x20_2).f3).length c162_3)).setCell ⟨gb163, 4, none⟩ (.slice A162_4 ((rd_T51 l0_0 x20_2).f4).length c162_4)).setCell ⟨gb163, 5, none⟩ (.slice A162_5 ((rd_T51 l0_0 x20_2).f5).length c162_5)) = w42
            replace BK160 := kw_ hW_ BK160
            replace BK163 := kv_ #[.int .i64 ((rd_T51 l0_0 x20_2).f0), .int .i64 ((rd_T51 l0_0 x20_2).f1), .int .i64 ((rd_T51 l0_0 x20_2).f2), .slice A162_3 ((rd_T51 l0_0 x20_2).f3).length c162_3, .slice A162_4 ((rd_T51 l0_0 x20_2).f4).length c162_4, .slice A162_5 ((rd_T51 l0_0 x20_2).f5).length c162_5] hW_ BK163
            replace HB := hw_ hW_ HB
            clear hW_
            replace BK160 := Aside0.mk (blk_drew BK160.out)
            replace BK163 := Aside0.mk (blk_drew BK163.out)
            replace HB := Aside0.mk (below_drew1 HB.out)
            refine st_ 26 (fun w' => w'.cell? ⟨gb163, 0, none⟩ = some (.int .i64 ((rd_T51 l0_0 x20_2).f0)) ∧ w'.cell? ⟨gb163, 1, none⟩ = some (.int .i64 ((rd_T51 l0_0 x20_2).f1)) ∧ w'.cell? ⟨gb163, 2, none⟩ = some (.int .i64 ((rd_T51 l0_0 x20_2).f2)) ∧ w'.cell? ⟨gb163, 3, none⟩ = some (.slice A162_3 ((rd_T51 l0_0 x20_2).f3).length c162_3) ∧ w'.cell? ⟨gb163, 4, none⟩ = some (.slice A162_4 ((rd_T51 l0_0 x20_2).f4).length c162_4) ∧ w'.cell? ⟨gb163, 5, none⟩ = some (.slice A162_5 ((rd_T51 l0_0 x20_2).f5).length c162_5) ∧ w'.cell? ⟨gb160, 0, none⟩ = some (.slice (some ad162) l0_0.length c0_0) ∧ w'.cell? ⟨gb160, 1, none⟩ = some (.int .i64 a0_1)) impl_TabOk.tab6 impl_TabOk.bits6 oH (fun hHeld HT_ HW_ => ?_)
            generalize w42.drew = w43 at BK160 BK163 HB hHeld ⊢
            refine ta_ 0 25 HT_ HW_ hHeld ?_
            refine on_ 1 26 HT_ (fun K hK => ?_)
            refine gr_ 26 Tryz.func66 (impl_InodeOk.calls k2 ((rd_T51 l0_0 x20_2).f0) ((rd_T51 l0_0 x20_2).f1) ((rd_T51 l0_0 x20_2).f2) _ _ ((rd_T51 l0_0 x20_2).f3) _ _ ((rd_T51 l0_0 x20_2).f4) _ _ ((rd_T51 l0_0 x20_2).f5) true _ (kC HR162_3) HC162_3.out (kC HR162_4) HC162_4.out (kC HR162_5) HC162_5.out A13.out) ?_
            rintro e w44 ⟨rfl, hb⟩
            refine ⟨_, rfl, ?_⟩
            replace BK160 := kb_ BK160 hb
            replace BK163 := kb_ BK163 hb
            replace HB := Aside0.mk (below_step oB hb)
            refine hk_ hK 26 oH (fun hHeld => ?_)
            clear hK K
            refine pu_ 2 27 HT_ ?_
            refine pu_ 3 28 HT_ ?_
            refine pu_ 4 29 HT_ ?_
            refine pu_ 6 31 HT_ ?_
            refine ta_ 5 30 HT_ HW_ hHeld ?_
            refine ta_ 7 32 HT_ HW_ hHeld ?_
            refine pu_ 8 33 HT_ ?_
            refine pu_ 9 34 HT_ ?_
            refine pu_ 10 35 HT_ ?_
            refine pu_ 11 36 HT_ ?_
            refine pu_ 12 37 HT_ ?_
            refine pu_ 13 38 HT_ ?_
            refine pn_ 14 39 HT_ ?_
            refine pn_ 15 40 HT_ ?_
            refine pn_ 16 41 HT_ ?_
            refine pn_ 17 42 HT_ ?_
            refine pn_ 18 43 HT_ ?_
            refine pn_ 19 44 HT_ ?_
            refine pn_ 20 45 HT_ ?_
            refine pn_ 21 46 HT_ ?_
            refine pn_ 22 47 HT_ ?_
            refine pn_ 23 48 HT_ ?_
            refine pu_ 24 49 HT_ ?_
            refine pu_ 25 50 HT_ ?_
            refine dn_ HT_ ?_
            try go_wp2
            go_roundg k2
            case measure => have := HJ1.out; have := HK2.out; omega
            case rel => exact ⟨(wrap64 (x20_2 + 1)), oS, H', ⟨by have := HJ1.out; have := HK2.out; omega⟩, ⟨oF BK160⟩, ⟨oB⟩⟩
         ·obtain rfl := Option.some.inj H
          have p162 : (0 ≤ (x20_2 : Int)) = True := oT
          have q162 : (x20_2 < (l0_0.length : Int)) = True := oT
          obtain ⟨ad162, A162_3, c162_3, A162_4, c162_4, A162_5, c162_5, e162, hx162_0, hx162_1, hx162_2, hx162_3, hx162_4, hx162_5, hl162_3, hi162_3, hl162_4, hi162_4, hl162_5, hi162_5⟩ := at_T51 HR0_0.out x20_2 oa oa
          cases e162
          replace hx162_0 := cB HB hx162_0
          replace hx162_1 := cB HB hx162_1
          replace hx162_2 := cB HB hx162_2
          replace hx162_3 := cB HB hx162_3
          replace hx162_4 := cB HB hx162_4
          replace hx162_5 := cB HB hx162_5
          have HR162_3 := Aside0.mk hi162_3
          have HC162_3 := Aside0.mk hl162_3
          clear hi162_3 hl162_3
          have HR162_4 := Aside0.mk hi162_4
          have HC162_4 := Aside0.mk hl162_4
          clear hi162_4 hl162_4
          have HR162_5 := Aside0.mk hi162_5
          have HC162_5 := Aside0.mk hl162_5
          clear hi162_5 hl162_5
          try go_wp2_with (first | ((with_reducible refine gate_dst (N := 4) rfl ?_); refine bx_ 4 #[.int .i64 0, .int .i64 0, .int .i64 0, .slice none 0 0, .slice none 0 0, .slice none 0 0] 51 ?_; intro gb163 hg w45 hbox hb; have BK163 := Aside0.mk (hbox); have GW163 := gs_ hg; have NB160_163 := nl_ hg BK160; have NB163_160 := nr_ hg BK160; replace BK160 := kb_ BK160 hb; replace HB := Aside0.mk (below_step oB hb); clear hb hbox hg; have hnb46 := NB163_160.out; have hnc46 := NB160_163.out; obtain ⟨⟨_, _, _, _, _, _⟩, _, _, _, _, _, _⟩ := z6 BK163))
          generalize hW_ : ((((((w45.setCell ⟨gb163, 0, none⟩ (.int .i64 ((rd_T51 l0_0 x20_2).f0))).setCell ⟨gb163, 1, none⟩ (.int .i64 ((rd_T51 l0_0 x20_2).f1))).setCell ⟨gb163, 2, none⟩ (.int .i64 ((rd_T51 l0_0 x20_2).f2))).setCell ⟨gb163, 3, none⟩ (.slice A162_3 ((rd_T51 l0_0 x20_2).f3).length c162_3)).setCell ⟨gb163, 4, none⟩ (.slice A162_4 ((rd_T51 l0_0 x20_2).f4).length c162_4)).setCell ⟨gb163, 5, none⟩ (.slice A162_5 ((rd_T51 l0_0 x20_2).f5).length c162_5)) = w48
          replace BK160 := kw_ hW_ BK160
          replace BK163 := kv_ #[.int .i64 ((rd_T51 l0_0 x20_2).f0), .int .i64 ((rd_T51 l0_0 x20_2).f1), .int .i64 ((rd_T51 l0_0 x20_2).f2), .slice A162_3 ((rd_T51 l0_0 x20_2).f3).length c162_3, .slice A162_4 ((rd_T51 l0_0 x20_2).f4).length c162_4, .slice A162_5 ((rd_T51 l0_0 x20_2).f5).length c162_5] hW_ BK163
          replace HB := hw_ hW_ HB
          clear hW_
          replace BK160 := Aside0.mk (blk_drew BK160.out)
          replace BK163 := Aside0.mk (blk_drew BK163.out)
          replace HB := Aside0.mk (below_drew1 HB.out)
          refine st_ 26 (fun w' => w'.cell? ⟨gb163, 0, none⟩ = some (.int .i64 ((rd_T51 l0_0 x20_2).f0)) ∧ w'.cell? ⟨gb163, 1, none⟩ = some (.int .i64 ((rd_T51 l0_0 x20_2).f1)) ∧ w'.cell? ⟨gb163, 2, none⟩ = some (.int .i64 ((rd_T51 l0_0 x20_2).f2)) ∧ w'.cell? ⟨gb163, 3, none⟩ = some (.slice A162_3 ((rd_T51 l0_0 x20_2).f3).length c162_3) ∧ w'.cell? ⟨gb163, 4, none⟩ = some (.slice A162_4 ((rd_T51 l0_0 x20_2).f4).length c162_4) ∧ w'.cell? ⟨gb163, 5, none⟩ = some (.slice A162_5 ((rd_T51 l0_0 x20_2).f5).length c162_5)) impl_TabOk.tab6 impl_TabOk.bits6 oH (fun hHeld HT_ HW_ => ?_)
          generalize w48.drew = w49 at BK160 BK163 HB hHeld ⊢
          refine ta_ 0 25 HT_ HW_ hHeld ?_
          refine on_ 1 26 HT_ (fun K hK => ?_)
          refine gr_ 26 Tryz.func66 (impl_InodeOk.calls k2 ((rd_T51 l0_0 x20_2).f0) ((rd_T51 l0_0 x20_2).f1) ((rd_T51 l0_0 x20_2).f2) _ _ ((rd_T51 l0_0 x20_2).f3) _ _ ((rd_T51 l0_0 x20_2).f4) _ _ ((rd_T51 l0_0 x20_2).f5) false _ (kC HR162_3) HC162_3.out (kC HR162_4) HC162_4.out (kC HR162_5) HC162_5.out A13.out) ?_
          rintro e w50 ⟨rfl, hb⟩
          refine ⟨_, rfl, ?_⟩
          replace BK160 := kb_ BK160 hb
          replace BK163 := kb_ BK163 hb
          replace HB := Aside0.mk (below_step oB hb)
          refine hk_ hK 26 oH (fun hHeld => ?_)
          clear hK K
          refine pu_ 2 27 HT_ ?_
          refine pu_ 3 28 HT_ ?_
          refine pn_ 4 29 HT_ ?_
          refine pn_ 5 30 HT_ ?_
          refine pn_ 6 31 HT_ ?_
          refine pn_ 7 32 HT_ ?_
          refine pn_ 8 33 HT_ ?_
          refine pu_ 9 34 HT_ ?_
          refine pu_ 10 35 HT_ ?_
          refine pn_ 11 36 HT_ ?_
          refine pn_ 12 37 HT_ ?_
          refine pn_ 13 38 HT_ ?_
          refine pn_ 14 39 HT_ ?_
          refine pn_ 15 40 HT_ ?_
          refine pn_ 16 41 HT_ ?_
          refine pn_ 17 42 HT_ ?_
          refine pn_ 18 43 HT_ ?_
          refine pn_ 19 44 HT_ ?_
          refine pn_ 20 45 HT_ ?_
          refine pn_ 21 46 HT_ ?_
          refine pn_ 22 47 HT_ ?_
          refine pn_ 23 48 HT_ ?_
          refine pn_ 24 49 HT_ ?_
          refine pu_ 25 50 HT_ ?_
          refine dn_ HT_ ?_
          try go_wp2
          go_ret
          exact ⟨oE, oB⟩
        ·cases H
       ·cases H
      ·replace H := bA H
       obtain ⟨⟨t166, t167, t168, t169, t172, t175, t178⟩, A51, H⟩ := H
       try dsimp only at H
       replace H := itB H
       rcases H with ⟨rfl, H⟩ | ⟨rfl, H⟩
       ·obtain rfl := Option.some.inj H
        obtain ⟨⟨_, _⟩, _, _⟩ := z2 BK160
        go_wp2_with (first | ((with_reducible refine gate_callee (f := 42) rfl ?_); refine gl_ 54 Tryz.func42 (impl_InodeAt.calls k2 _ _ l0_0 a0_1 1 t166 t167 t168 t169 t172 t175 true _ (kC HR0_0) HC0_0.out A51.out) ?_; rintro e w54 ⟨v170, v173, v176, rfl, ho0, ho1, ho2, hb⟩; refine ⟨_, rfl, ?_⟩; have HO171 := Aside0.mk (Kd.R_lower ho0 (below_size oB)); have HO174 := Aside0.mk (Kd.R_lower ho1 (below_size oB)); have HO177 := Aside0.mk (Kd.R_lower ho2 (below_size oB)); replace BK160 := kb_ BK160 hb; replace HB := Aside0.mk (below_step oB hb); (try clear ho1); (try clear ho2)) | ((with_reducible refine gate_dst (N := 5) rfl ?_); refine bx_ 5 #[.int .i64 0, .int .i64 0, .int .i64 0, .slice none 0 0, .slice none 0 0, .slice none 0 0] 51 ?_; intro gb179 hg w55 hbox hb; have BK179 := Aside0.mk (hbox); have GW179 := gs_ hg; have NB160_179 := nl_ hg BK160; have NB179_160 := nr_ hg BK160; replace HO171 := kr_ HO171 hb; replace HO174 := kr_ HO174 hb; replace HO177 := kr_ HO177 hb; replace BK160 := kb_ BK160 hb; replace HB := Aside0.mk (below_step oB hb); clear hb hbox hg; have hnb56 := NB179_160.out; have hnc56 := NB160_179.out; obtain ⟨⟨_, _, _, _, _, _⟩, _, _, _, _, _, _⟩ := z6 BK179; obtain ⟨Ao58, co58, eo58⟩ := Kd.R_slice HO171.out; subst eo58; obtain ⟨Ao59, co59, eo59⟩ := Kd.R_slice HO174.out; subst eo59; obtain ⟨Ao60, co60, eo60⟩ := Kd.R_slice HO177.out; subst eo60))
        go_ret
        exact ⟨oE, oB⟩
       ·obtain rfl := Option.some.inj H
        obtain ⟨⟨_, _⟩, _, _⟩ := z2 BK160
        go_wp2_with (first | ((with_reducible refine gate_callee (f := 42) rfl ?_); refine gl_ 54 Tryz.func42 (impl_InodeAt.calls k2 _ _ l0_0 a0_1 1 t166 t167 t168 t169 t172 t175 false _ (kC HR0_0) HC0_0.out A51.out) ?_; rintro e w62 ⟨v170, v173, v176, rfl, ho0, ho1, ho2, hb⟩; refine ⟨_, rfl, ?_⟩; have HO171 := Aside0.mk (Kd.R_lower ho0 (below_size oB)); have HO174 := Aside0.mk (Kd.R_lower ho1 (below_size oB)); have HO177 := Aside0.mk (Kd.R_lower ho2 (below_size oB)); replace BK160 := kb_ BK160 hb; replace HB := Aside0.mk (below_step oB hb); (try clear ho1); (try clear ho2)) | ((with_reducible refine gate_dst (N := 5) rfl ?_); refine bx_ 5 #[.int .i64 0, .int .i64 0, .int .i64 0, .slice none 0 0, .slice none 0 0, .slice none 0 0] 51 ?_; intro gb179 hg w63 hbox hb; have BK179 := Aside0.mk (hbox); have GW179 := gs_ hg; have NB160_179 := nl_ hg BK160; have NB179_160 := nr_ hg BK160; replace HO171 := kr_ HO171 hb; replace HO174 := kr_ HO174 hb; replace HO177 := kr_ HO177 hb; replace BK160 := kb_ BK160 hb; replace HB := Aside0.mk (below_step oB hb); clear hb hbox hg; have hnb64 := NB179_160.out; have hnc64 := NB160_179.out; obtain ⟨⟨_, _, _, _, _, _⟩, _, _, _, _, _, _⟩ := z6 BK179; obtain ⟨Ao66, co66, eo66⟩ := Kd.R_slice HO171.out; subst eo66; obtain ⟨Ao67, co67, eo67⟩ := Kd.R_slice HO174.out; subst eo67; obtain ⟨Ao68, co68, eo68⟩ := Kd.R_slice HO177.out; subst eo68))
        go_ret
        exact ⟨oE, oB⟩

end Go.Proofs.YtkcfmbggdkkfeaaGreatDoor.P
