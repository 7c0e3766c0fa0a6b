-- By this session's own program (wip/myprint.py) out of the translation; Lean checks it.
import Derived.Test.YtolkhimbfegkkaaGreatPx0
import Derived.Test.YtolkhimbfegkkaaGreatPx5
import Derived.Test.YtolkhimbfegkkaaGreatPx10
import Derived.Test.YtolkhimbfegkkaaGreatPx12
namespace Go.Proofs.YtolkhimbfegkkaaGreat.P
open Go.RowKit Go.Proofs.YtolkhimbfegkkaaGreatW.PrintWords Go.Proofs.YtolkhimbfegkkaaGreatW.PrintLast Go.Proofs.YtolkhimbfegkkaaGreatW.PrintMore
attribute [local go_sem] max2_int min2_int max_two min_two max_three min_three max_four min_four   -- for this text's walks alone
set_option linter.unusedVariables false
set_option linter.unusedSimpArgs false

/-! ### impl_TabOk: function 32 -/
mutual
def impl_TabOk.j0 : Nat → Bool → List (S47) → Int → Option (Bool)
 | 0, _, _, _ => none
 | k + 1, x16, x385000, x385001 => if x16 = true then (some false) else (impl_TabOk.l0 k x385000 (x385000.length : Int) 0 x385000 x385001)
def impl_TabOk.l0 : Nat → List (S47) → Int → Int → List (S47) → Int → Option (Bool)
 | 0, _, _, _, _, _ => none
 | k + 1, x18, x19, x20, x385000, x385001 => if x20 < x19 then (if 0 ≤ x20 then (if x20 < (x18.length : Int) then ((impl_InodeOk.f k ((rd_T47 x18 x20).f0) ((rd_T47 x18 x20).f1) ((rd_T47 x18 x20).f2) ((rd_T47 x18 x20).f3) ((rd_T47 x18 x20).f4) ((rd_T47 x18 x20).f5)).bind fun t388 => (if t388 = true then (if ((rd_T47 x18 x20).f0) ≥ x385001 then (some false) else (if x20 > 0 then (if 0 ≤ (wrap64 (x20 - 1)) then (if (wrap64 (x20 - 1)) < (x385000.length : Int) then (if ((rd_T47 x385000 (wrap64 (x20 - 1))).f0) ≥ ((rd_T47 x18 x20).f0) then (some false) else (impl_TabOk.l0 k x18 x19 (wrap64 (x20 + 1)) x385000 x385001)) else (none)) else (none)) else (impl_TabOk.l0 k x18 x19 (wrap64 (x20 + 1)) x385000 x385001))) else (some false))) else (none)) else (none)) else ((impl_InodeAt.f k x385000 x385001 1).bind fun bt390 => (if bt390.2.2.2.2.2.2 = true then (some (bt390.2.1 == 2)) else (some false)))
end
def impl_TabOk.f (k : Nat) (l0_0 : List (S47)) (a0_1 : Int) : Option (Bool) := if (l0_0.length : Int) > 30 then (impl_TabOk.j0 k true l0_0 a0_1) else ((impl_from.f a0_1 2 1000).bind fun t385 => (impl_TabOk.j0 k (!t385) l0_0 a0_1))
def impl_TabOk.T6 : Bool × List (List Nat × List Nat) := (true, [([], []), ([0], [0]), ([1], [1]), ([2, 1], [2]), ([3], [3]), ([4, 3], [3, 4]), ([3], [3]), ([6, 3], [3, 6]), ([5, 7, 3], [3, 5, 7]), ([3, 8], [3, 8]), ([9, 3], [9]), ([10], [10]), ([11, 10], [10, 11]), ([12, 10, 10], [10, 12]), ([13], [13]), ([14, 13], [13, 14]), ([13], [13]), ([16, 13], [13, 16]), ([15, 17, 13], [13, 15, 17]), ([18, 13], [13, 18]), ([19, 13], [13, 19]), ([13], [13]), ([21, 13], [13, 21]), ([20, 22, 13], [13, 20, 22]), ([13, 23, 10], [10, 13, 23]), ([10, 24], [10, 24])])
def impl_TabOk.B6 : List Nat := [0, 1, 3, 7, 15, 31, 15, 79, 255, 511, 1023, 2047, 4095, 8191, 16383, 32767, 16383, 81919, 262143, 524287, 1048575, 16383, 2113535, 8388607, 16777215, 33554431]
theorem impl_TabOk.tab6 : rtab .any (opsOf Tryz.f32 6) = impl_TabOk.T6 := by kernel_rfl
theorem impl_TabOk.bits6 : waitsOk impl_TabOk.T6.2 impl_TabOk.B6 = true := by kernel_rfl
set_option maxHeartbeats 8000000 in
set_option maxRecDepth 100000 in
theorem impl_TabOk.calls (k : Nat) (A0_0 : Option Addr) (c0_0 : Nat) (l0_0 : List (S47)) (a0_1 : Int) (r : Bool) (w : World) (hr0_0 : Kd.C k47 w A0_0 l0_0.length l0_0) (hc0_0 : l0_0.length ≤ c0_0) (h : impl_TabOk.f k l0_0 a0_1 = some r) :
  Calls Tryz.prog 32 #[.agg #[.slice A0_0 l0_0.length c0_0, .int .i64 a0_1]] w fun e w' => e = .returned (.bool r) ∧ Below w.heap.size w w' := by
 have hu30 := Tryz.underlying30
 have hu47 := Tryz.underlying47
 have HR0_0 := Aside0.mk hr0_0
 have HC0_0 := Aside0.mk hc0_0
 clear hr0_0 hc0_0
 have HB := Aside0.mk (Below.refl w.heap.size w)
 unfold impl_TabOk.f at h
 have H := h
 clear h
 have HC2 := Aside0.mk H
 clear H
 go_enter Tryz.func32, Tryz.ntmps32
 go_upto_region 1 with (first | ((with_reducible refine gate_dst (N := 1) rfl ?_); refine bx_ 1 #[.slice A0_0 l0_0.length c0_0, .int .i64 a0_1] 30 ?_; intro gb384 hg w3 hbox hb; have BK384 := Aside0.mk (hbox); have GW384 := gs_ hg; replace HB := Aside0.mk (below_step oB hb); clear hb hbox hg))
 (try simp only [Act.put, List.setIfInBounds_toArray, List.set_cons_zero, List.set_cons_succ])
 go_cut [16] (fun v16 wc => ∃ (kq : Nat) (x16_1 : Bool), v16 = .bool x16_1 ∧ Aside0 (impl_TabOk.j0 kq x16_1 l0_0 a0_1 = some r) ∧ Aside0 (kq ≤ k) ∧ Aside0 (wc.heap[gb384]? = some (.cells #[(.slice A0_0 l0_0.length c0_0), .int .i64 a0_1] 30 (0, 0))) ∧ Aside0 (Below w.heap.size w wc))
 case first =>
  have H := HC2.out
  clear HC2
  by_cases c4 : (l0_0.length : Int) > 30
  ·rw [if_pos c4] at H
   have c4b0 : decide (30 < (l0_0.length : Int)) = true := decide_eq_true c4
   have c4b1 : decide (30 < l0_0.length) = true := decide_eq_true (by omega)
   clear c4
   (first | rw [c4b0] | rw [c4b2] | (simp only [i64_w, i32_w]; rw [c4b0]) | skip)
   have H' := Aside0.mk H
   clear H
   obtain ⟨⟨_, _⟩, _, _⟩ := z2 BK384
   go_wp2
   go_meet
   case rel => exact ⟨_, (true), oS, H', ⟨by first | omega | exact Nat.le_refl _⟩, ⟨oF BK384⟩, ⟨oB⟩⟩
  ·rw [if_neg c4] at H
   have c4b0 : decide (30 < (l0_0.length : Int)) = false := decide_eq_false c4
   have c4b1 : decide (30 < l0_0.length) = false := decide_eq_false (by omega)
   clear c4
   (first | rw [c4b0] | rw [c4b2] | (simp only [i64_w, i32_w]; rw [c4b0]) | skip)
   replace H := bA H
   obtain ⟨t385, A6, H⟩ := H
   try dsimp only at H
   have H' := Aside0.mk H
   clear H
   obtain ⟨⟨_, _⟩, _, _⟩ := z2 BK384
   go_wp2_with (first | (go_at_call 53; (with_reducible refine (impl_from.calls a0_1 2 1000 t385 _ A6.out).mono ?_); rintro e w' ⟨rfl, ⟨nd, rfl⟩⟩))
   go_meet
   case rel => exact ⟨_, (!t385), oS, H', ⟨by first | omega | exact Nat.le_refl _⟩, ⟨oF BK384⟩, ⟨oB⟩⟩
 case rest =>
  clear HC2
  obtain ⟨kq, x16_1, rfl, HA, HJ1, BK384, HB⟩ := hcut
  cases kq with
  | zero => exact absurd HA.out (by simp [impl_TabOk.j0])
  | succ kj1 =>
   have H := HA.out
   clear HA
   simp only [impl_TabOk.j0] at H
   replace H := itB H
   rcases H with ⟨rfl, H⟩ | ⟨rfl, H⟩
   ·obtain rfl := Option.some.inj H
    go_wp2
    go_ret
    exact ⟨oE, oB⟩
   ·have H' := Aside0.mk H
    clear H
    obtain ⟨⟨_, _⟩, _, _⟩ := z2 BK384
    go_wp2
    go_loopg [20] kj1 (fun kq v20 w' => ∃ (x20_2 : Int), v20 = .int .i64 x20_2 ∧ Aside0 (impl_TabOk.l0 kq l0_0 (l0_0.length : Int) x20_2 l0_0 a0_1 = some r) ∧ Aside0 (kq ≤ kj1) ∧ Aside0 (w'.heap[gb384]? = some (.cells #[(.slice A0_0 l0_0.length c0_0), .int .i64 a0_1] 30 (0, 0))) ∧ Aside0 (Below w.heap.size w w'))
    case atStart => exact ⟨(0), oS, H', ⟨Nat.le_refl _⟩, ⟨oF BK384⟩, ⟨oB⟩⟩
    case round =>
     clear H'
     obtain ⟨x20_2, rfl, HA, HK2, BK384, HB⟩ := hrel
     cases gk with
     | zero => exact absurd HA.out (by simp [impl_TabOk.l0])
     | succ k2 =>
      have H := HA.out
      clear HA
      simp only [impl_TabOk.l0] at H
      replace H := itD H
      rcases H with ⟨c10b0, H⟩ | ⟨c10b0, H⟩
      ·replace H := itD H
       rcases H with ⟨c11b0, H⟩ | ⟨c11b0, H⟩
       ·replace H := itD H
        rcases H with ⟨c12b0, H⟩ | ⟨c12b0, H⟩
        ·replace H := bA H
         obtain ⟨t388, A13, H⟩ := H
         try dsimp only at H
         replace H := itB H
         rcases H with ⟨rfl, H⟩ | ⟨rfl, H⟩
         ·replace H := itH H
          rcases H with ⟨c15b0, H⟩ | ⟨c15b0, H⟩
          ·obtain rfl := Option.some.inj H
           have p386 : (0 ≤ (x20_2 : Int)) = True := oT
           have q386 : (x20_2 < (l0_0.length : Int)) = True := oT
           obtain ⟨ad386, A386_3, c386_3, A386_4, c386_4, A386_5, c386_5, e386, hx386_0, hx386_1, hx386_2, hx386_3, hx386_4, hx386_5, hl386_3, hi386_3, hl386_4, hi386_4, hl386_5, hi386_5⟩ := at_T47 HR0_0.out x20_2 oa oa
           cases e386
           replace hx386_0 := cB HB hx386_0
           replace hx386_1 := cB HB hx386_1
           replace hx386_2 := cB HB hx386_2
           replace hx386_3 := cB HB hx386_3
           replace hx386_4 := cB HB hx386_4
           replace hx386_5 := cB HB hx386_5
           have HR386_3 := Aside0.mk hi386_3
           have HC386_3 := Aside0.mk hl386_3
           clear hi386_3 hl386_3
           have HR386_4 := Aside0.mk hi386_4
           have HC386_4 := Aside0.mk hl386_4
           clear hi386_4 hl386_4
           have HR386_5 := Aside0.mk hi386_5
           have HC386_5 := Aside0.mk hl386_5
           clear hi386_5 hl386_5
           try go_wp2_with (first | ((with_reducible refine gate_dst (N := 4) rfl ?_); refine bx_ 4 #[.int .i64 0, .int .i64 0, .int .i64 0, .slice none 0 0, .slice none 0 0, .slice none 0 0] 47 ?_; intro gb387 hg w16 hbox hb; have BK387 := Aside0.mk (hbox); have GW387 := gs_ hg; have NB384_387 := nl_ hg BK384; have NB387_384 := nr_ hg BK384; replace BK384 := kb_ BK384 hb; replace HB := Aside0.mk (below_step oB hb); clear hb hbox hg; have hnb17 := NB387_384.out; have hnc17 := NB384_387.out; obtain ⟨⟨_, _, _, _, _, _⟩, _, _, _, _, _, _⟩ := z6 BK387))
           generalize hW_ : ((((((w16.setCell ⟨gb387, 0, none⟩ (.int .i64 ((rd_T47 l0_0 x20_2).f0))).setCell ⟨gb387, 1, none⟩ (.int .i64 ((rd_T47 l0_0 x20_2).f1))).setCell ⟨gb387, 2, none⟩ (.int .i64 ((rd_T47 l0_0 x20_2).f2))).setCell ⟨gb387, 3, none⟩ (.slice A386_3 ((rd_T47 l0_0 x20_2).f3).length c386_3)).setCell ⟨gb387, 4, none⟩ (.slice A386_4 ((rd_T47 l0_0 x20_2).f4).length c386_4)).setCell ⟨gb387, 5, none⟩ (.slice A386_5 ((rd_T47 l0_0 x20_2).f5).length c386_5)) = w19
           replace BK384 := kw_ hW_ BK384
           replace BK387 := kv_ #[.int .i64 ((rd_T47 l0_0 x20_2).f0), .int .i64 ((rd_T47 l0_0 x20_2).f1), .int .i64 ((rd_T47 l0_0 x20_2).f2), .slice A386_3 ((rd_T47 l0_0 x20_2).f3).length c386_3, .slice A386_4 ((rd_T47 l0_0 x20_2).f4).length c386_4, .slice A386_5 ((rd_T47 l0_0 x20_2).f5).length c386_5] hW_ BK387
           replace HB := hw_ hW_ HB
           clear hW_
           replace BK384 := Aside0.mk (blk_drew BK384.out)
           replace BK387 := Aside0.mk (blk_drew BK387.out)
           replace HB := Aside0.mk (below_drew1 HB.out)
           refine st_ 26 (fun w' => w'.cell? ⟨gb387, 0, none⟩ = some (.int .i64 ((rd_T47 l0_0 x20_2).f0)) ∧ w'.cell? ⟨gb387, 1, none⟩ = some (.int .i64 ((rd_T47 l0_0 x20_2).f1)) ∧ w'.cell? ⟨gb387, 2, none⟩ = some (.int .i64 ((rd_T47 l0_0 x20_2).f2)) ∧ w'.cell? ⟨gb387, 3, none⟩ = some (.slice A386_3 ((rd_T47 l0_0 x20_2).f3).length c386_3) ∧ w'.cell? ⟨gb387, 4, none⟩ = some (.slice A386_4 ((rd_T47 l0_0 x20_2).f4).length c386_4) ∧ w'.cell? ⟨gb387, 5, none⟩ = some (.slice A386_5 ((rd_T47 l0_0 x20_2).f5).length c386_5) ∧ w'.cell? ⟨gb384, 0, none⟩ = some (.slice (some ad386) l0_0.length c0_0) ∧ w'.cell? ⟨gb384, 1, none⟩ = some (.int .i64 a0_1)) impl_TabOk.tab6 impl_TabOk.bits6 oH (fun hHeld HT_ HW_ => ?_)
           generalize w19.drew = w20 at BK384 BK387 HB hHeld ⊢
           refine ta_ 0 25 HT_ HW_ hHeld ?_
           refine on_ 1 26 HT_ (fun K hK => ?_)
           refine gr_ 26 Tryz.func54 (impl_InodeOk.calls k2 ((rd_T47 l0_0 x20_2).f0) ((rd_T47 l0_0 x20_2).f1) ((rd_T47 l0_0 x20_2).f2) _ _ ((rd_T47 l0_0 x20_2).f3) _ _ ((rd_T47 l0_0 x20_2).f4) _ _ ((rd_T47 l0_0 x20_2).f5) true _ (kC HR386_3) HC386_3.out (kC HR386_4) HC386_4.out (kC HR386_5) HC386_5.out A13.out) ?_
           rintro e w21 ⟨rfl, hb⟩
           refine ⟨_, rfl, ?_⟩
           replace BK384 := kb_ BK384 hb
           replace BK387 := kb_ BK387 hb
           replace HB := Aside0.mk (below_step oB hb)
           refine hk_ hK 26 oH (fun hHeld => ?_)
           clear hK K
           refine pu_ 2 27 HT_ ?_
           refine pu_ 3 28 HT_ ?_
           refine pu_ 4 29 HT_ ?_
           refine pu_ 6 31 HT_ ?_
           refine ta_ 5 30 HT_ HW_ hHeld ?_
           refine ta_ 7 32 HT_ HW_ hHeld ?_
           refine pu_ 8 33 HT_ ?_
           refine pu_ 9 34 HT_ ?_
           refine pu_ 10 35 HT_ ?_
           refine pn_ 11 36 HT_ ?_
           refine pn_ 12 37 HT_ ?_
           refine pn_ 13 38 HT_ ?_
           refine pn_ 14 39 HT_ ?_
           refine pn_ 15 40 HT_ ?_
           refine pn_ 16 41 HT_ ?_
           refine pn_ 17 42 HT_ ?_
           refine pn_ 18 43 HT_ ?_
           refine pn_ 19 44 HT_ ?_
           refine pn_ 20 45 HT_ ?_
           refine pn_ 21 46 HT_ ?_
           refine pn_ 22 47 HT_ ?_
           refine pn_ 23 48 HT_ ?_
           refine pn_ 24 49 HT_ ?_
           refine pu_ 25 50 HT_ ?_
           refine dn_ HT_ ?_
           try go_wp2
           go_ret
           exact ⟨oE, oB⟩
          ·replace H := itG H
           rcases H with ⟨c22b0, H⟩ | ⟨c22b0, H⟩
           ·obtain ⟨ji23, hji23⟩ : ∃ j_ : Int, (wrap64 (x20_2 - 1)) = j_ := ⟨_, rfl⟩
            replace H : (if 0 ≤ (ji23) then (if (ji23) < (l0_0.length : Int) then (if ((rd_T47 l0_0 (ji23)).f0) ≥ ((rd_T47 l0_0 x20_2).f0) then (some false) else (impl_TabOk.l0 k2 l0_0 (l0_0.length : Int) (wrap64 (x20_2 + 1)) l0_0 a0_1)) else (none)) else (none)) = some r := by first | (rw [hji23] at H; exact H) | (simp only [hji23] at H ⊢; exact H)
            (try rw [hji23] at A13)
            have hji23w : (IntKind.i64.wrap (x20_2 - 1)) = ji23 := (i64_w _).trans hji23
            replace H := itD H
            rcases H with ⟨c24b0, H⟩ | ⟨c24b0, H⟩
            ·replace H := itD H
             rcases H with ⟨c25b0, H⟩ | ⟨c25b0, H⟩
             ·replace H := itH H
              rcases H with ⟨c26b0, H⟩ | ⟨c26b0, H⟩
              ·obtain rfl := Option.some.inj H
               have p386 : (0 ≤ (x20_2 : Int)) = True := oT
               have q386 : (x20_2 < (l0_0.length : Int)) = True := oT
               obtain ⟨ad386, A386_3, c386_3, A386_4, c386_4, A386_5, c386_5, e386, hx386_0, hx386_1, hx386_2, hx386_3, hx386_4, hx386_5, hl386_3, hi386_3, hl386_4, hi386_4, hl386_5, hi386_5⟩ := at_T47 HR0_0.out x20_2 oa oa
               cases e386
               replace hx386_0 := cB HB hx386_0
               replace hx386_1 := cB HB hx386_1
               replace hx386_2 := cB HB hx386_2
               replace hx386_3 := cB HB hx386_3
               replace hx386_4 := cB HB hx386_4
               replace hx386_5 := cB HB hx386_5
               have HR386_3 := Aside0.mk hi386_3
               have HC386_3 := Aside0.mk hl386_3
               clear hi386_3 hl386_3
               have HR386_4 := Aside0.mk hi386_4
               have HC386_4 := Aside0.mk hl386_4
               clear hi386_4 hl386_4
               have HR386_5 := Aside0.mk hi386_5
               have HC386_5 := Aside0.mk hl386_5
               clear hi386_5 hl386_5
               try go_wp2_with (first | ((with_reducible refine gate_dst (N := 4) rfl ?_); refine bx_ 4 #[.int .i64 0, .int .i64 0, .int .i64 0, .slice none 0 0, .slice none 0 0, .slice none 0 0] 47 ?_; intro gb387 hg w27 hbox hb; have BK387 := Aside0.mk (hbox); have GW387 := gs_ hg; have NB384_387 := nl_ hg BK384; have NB387_384 := nr_ hg BK384; replace BK384 := kb_ BK384 hb; replace HB := Aside0.mk (below_step oB hb); clear hb hbox hg; have hnb28 := NB387_384.out; have hnc28 := NB384_387.out; obtain ⟨⟨_, _, _, _, _, _⟩, _, _, _, _, _, _⟩ := z6 BK387))
               generalize hW_ : ((((((w27.setCell ⟨gb387, 0, none⟩ (.int .i64 ((rd_T47 l0_0 x20_2).f0))).setCell ⟨gb387, 1, none⟩ (.int .i64 ((rd_T47 l0_0 x20_2).f1))).setCell ⟨gb387, 2, none⟩ (.int .i64 ((rd_T47 l0_0 x20_2).f2))).setCell ⟨gb387, 3, none⟩ (.slice A386_3 ((rd_T47 l0_0 x20_2).f3).length c386_3)).setCell ⟨gb387, 4, none⟩ (.slice A386_4 ((rd_T47 l0_0 x20_2).f4).length c386_4)).setCell ⟨gb387, 5, none⟩ (.slice A386_5 ((rd_T47 l0_0 x20_2).f5).length c386_5)) = w30
               replace BK384 := kw_ hW_ BK384
               replace BK387 := kv_ #[.int .i64 ((rd_T47 l0_0 x20_2).f0), .int .i64 ((rd_T47 l0_0 x20_2).f1), .int .i64 ((rd_T47 l0_0 x20_2).f2), .slice A386_3 ((rd_T47 l0_0 x20_2).f3).length c386_3, .slice A386_4 ((rd_T47 l0_0 x20_2).f4).length c386_4, .slice A386_5 ((rd_T47 l0_0 x20_2).f5).length c386_5] hW_ BK387
               replace HB := hw_ hW_ HB
               clear hW_
               replace BK384 := Aside0.mk (blk_drew BK384.out)
               replace BK387 := Aside0.mk (blk_drew BK387.out)
               replace HB := Aside0.mk (below_drew1 HB.out)
               have p389 : (0 ≤ ((ji23) : Int)) = True := oT
               have q389 : ((ji23) < (l0_0.length : Int)) = True := oT
               obtain ⟨ad389, A389_3, c389_3, A389_4, c389_4, A389_5, c389_5, e389, hx389_0, hx389_1, hx389_2, hx389_3, hx389_4, hx389_5, hl389_3, hi389_3, hl389_4, hi389_4, hl389_5, hi389_5⟩ := at_T47 HR0_0.out (ji23) oa oa
               have hw389_5 := hx389_5
               have hw389_4 := hx389_4
               have hw389_3 := hx389_3
               have hw389_2 := hx389_2
               have hw389_1 := hx389_1
               have hw389_0 := hx389_0
               obtain rfl : ad386 = ad389 := (by injection e389)
               replace hx389_0 := cB HB hx389_0
               replace hx389_1 := cB HB hx389_1
               replace hx389_2 := cB HB hx389_2
               replace hx389_3 := cB HB hx389_3
               replace hx389_4 := cB HB hx389_4
               replace hx389_5 := cB HB hx389_5
               have HR389_3 := Aside0.mk hi389_3
               have HC389_3 := Aside0.mk hl389_3
               clear hi389_3 hl389_3
               have HR389_4 := Aside0.mk hi389_4
               have HC389_4 := Aside0.mk hl389_4
               clear hi389_4 hl389_4
               have HR389_5 := Aside0.mk hi389_5
               have HC389_5 := Aside0.mk hl389_5
               clear hi389_5 hl389_5
               refine st_ 26 (fun w' => w'.cell? ⟨gb387, 0, none⟩ = some (.int .i64 ((rd_T47 l0_0 x20_2).f0)) ∧ w'.cell? ⟨gb387, 1, none⟩ = some (.int .i64 ((rd_T47 l0_0 x20_2).f1)) ∧ w'.cell? ⟨gb387, 2, none⟩ = some (.int .i64 ((rd_T47 l0_0 x20_2).f2)) ∧ w'.cell? ⟨gb387, 3, none⟩ = some (.slice A386_3 ((rd_T47 l0_0 x20_2).f3).length c386_3) ∧ w'.cell? ⟨gb387, 4, none⟩ = some (.slice A386_4 ((rd_T47 l0_0 x20_2).f4).length c386_4) ∧ w'.cell? ⟨gb387, 5, none⟩ = some (.slice A386_5 ((rd_T47 l0_0 x20_2).f5).length c386_5) ∧ w'.cell? ⟨gb384, 0, none⟩ = some (.slice (some ad386) l0_0.length c0_0) ∧ w'.cell? ⟨gb384, 1, none⟩ = some (.int .i64 a0_1) ∧ w'.cell? (ad386.add (((ji23)).toNat * 6)) = some (.int .i64 ((rd_T47 l0_0 (ji23)).f0)) ∧ w'.cell? ⟨(ad386.add (((ji23)).toNat * 6)).block, (ad386.add (((ji23)).toNat * 6)).off + 1, none⟩ = some (.int .i64 ((rd_T47 l0_0 (ji23)).f1)) ∧ w'.cell? ⟨(ad386.add (((ji23)).toNat * 6)).block, (ad386.add (((ji23)).toNat * 6)).off + 2, none⟩ = some (.int .i64 ((rd_T47 l0_0 (ji23)).f2)) ∧ w'.cell? ⟨(ad386.add (((ji23)).toNat * 6)).block, (ad386.add (((ji23)).toNat * 6)).off + 3, none⟩ = some (.slice A389_3 ((rd_T47 l0_0 (ji23)).f3).length c389_3) ∧ w'.cell? ⟨(ad386.add (((ji23)).toNat * 6)).block, (ad386.add (((ji23)).toNat * 6)).off + 4, none⟩ = some (.slice A389_4 ((rd_T47 l0_0 (ji23)).f4).length c389_4) ∧ w'.cell? ⟨(ad386.add (((ji23)).toNat * 6)).block, (ad386.add (((ji23)).toNat * 6)).off + 5, none⟩ = some (.slice A389_5 ((rd_T47 l0_0 (ji23)).f5).length c389_5)) impl_TabOk.tab6 impl_TabOk.bits6 oH (fun hHeld HT_ HW_ => ?_)
               generalize w30.drew = w31 at BK384 BK387 HB HR389_3 HR389_4 HR389_5 hx389_0 hx389_1 hx389_2 hx389_3 hx389_4 hx389_5 hHeld ⊢
               refine ta_ 0 25 HT_ HW_ hHeld ?_
               refine on_ 1 26 HT_ (fun K hK => ?_)
               refine gr_ 26 Tryz.func54 (impl_InodeOk.calls k2 ((rd_T47 l0_0 x20_2).f0) ((rd_T47 l0_0 x20_2).f1) ((rd_T47 l0_0 x20_2).f2) _ _ ((rd_T47 l0_0 x20_2).f3) _ _ ((rd_T47 l0_0 x20_2).f4) _ _ ((rd_T47 l0_0 x20_2).f5) true _ (kC HR386_3) HC386_3.out (kC HR386_4) HC386_4.out (kC HR386_5) HC386_5.out A13.out) ?_
               rintro e w32 ⟨rfl, hb⟩
               refine ⟨_, rfl, ?_⟩
               replace BK384 := kb_ BK384 hb
               replace BK387 := kb_ BK387 hb
               replace HB := Aside0.mk (below_step oB hb)
               refine hk_ hK 26 oH (fun hHeld => ?_)
               clear hK K
               refine pu_ 2 27 HT_ ?_
               refine pu_ 3 28 HT_ ?_
               refine pu_ 4 29 HT_ ?_
               refine pu_ 6 31 HT_ ?_
               refine ta_ 5 30 HT_ HW_ hHeld ?_
               refine ta_ 7 32 HT_ HW_ hHeld ?_
               refine pu_ 8 33 HT_ ?_
               refine pu_ 9 34 HT_ ?_
               refine pu_ 10 35 HT_ ?_
               refine pu_ 11 36 HT_ ?_
               refine pu_ 12 37 HT_ ?_
               refine pu_ 13 38 HT_ ?_
               refine pu_ 14 39 HT_ ?_
               refine pu_ 16 41 HT_ ?_
               refine pu_ 17 42 HT_ ?_
               refine pu_ 21 46 HT_ ?_
               refine ta_ 15 40 HT_ HW_ hHeld ?_
               refine pu_ 18 43 HT_ ?_
               refine pu_ 19 44 HT_ ?_
               refine ta_ 20 45 HT_ HW_ hHeld ?_
               refine ta_ 22 47 HT_ HW_ hHeld ?_
               refine pu_ 23 48 HT_ ?_
               refine pu_ 24 49 HT_ ?_
               refine pu_ 25 50 HT_ ?_
               refine dn_ HT_ ?_
               try go_wp2
               go_ret
               exact ⟨by first | rfl | (simp [errW_none, errW_some] <;> rfl) | (simp only [← hji23]; first | rfl | (simp [errW_none, errW_some] <;> rfl)) | (simp [*, errW_none, errW_some] <;> rfl), oB⟩
              ·have H' := Aside0.mk H
               clear H
               have p386 : (0 ≤ (x20_2 : Int)) = True := oT
               have q386 : (x20_2 < (l0_0.length : Int)) = True := oT
               obtain ⟨ad386, A386_3, c386_3, A386_4, c386_4, A386_5, c386_5, e386, hx386_0, hx386_1, hx386_2, hx386_3, hx386_4, hx386_5, hl386_3, hi386_3, hl386_4, hi386_4, hl386_5, hi386_5⟩ := at_T47 HR0_0.out x20_2 oa oa
               cases e386
               replace hx386_0 := cB HB hx386_0
               replace hx386_1 := cB HB hx386_1
               replace hx386_2 := cB HB hx386_2
               replace hx386_3 := cB HB hx386_3
               replace hx386_4 := cB HB hx386_4
               replace hx386_5 := cB HB hx386_5
               have HR386_3 := Aside0.mk hi386_3
               have HC386_3 := Aside0.mk hl386_3
               clear hi386_3 hl386_3
               have HR386_4 := Aside0.mk hi386_4
               have HC386_4 := Aside0.mk hl386_4
               clear hi386_4 hl386_4
               have HR386_5 := Aside0.mk hi386_5
               have HC386_5 := Aside0.mk hl386_5
               clear hi386_5 hl386_5
               try go_wp2_with (first | ((with_reducible refine gate_dst (N := 4) rfl ?_); refine bx_ 4 #[.int .i64 0, .int .i64 0, .int .i64 0, .slice none 0 0, .slice none 0 0, .slice none 0 0] 47 ?_; intro gb387 hg w33 hbox hb; have BK387 := Aside0.mk (hbox); have GW387 := gs_ hg; have NB384_387 := nl_ hg BK384; have NB387_384 := nr_ hg BK384; replace BK384 := kb_ BK384 hb; replace HB := Aside0.mk (below_step oB hb); clear hb hbox hg; have hnb34 := NB387_384.out; have hnc34 := NB384_387.out; obtain ⟨⟨_, _, _, _, _, _⟩, _, _, _, _, _, _⟩ := z6 BK387))
               generalize hW_ : ((((((w33.setCell ⟨gb387, 0, none⟩ (.int .i64 ((rd_T47 l0_0 x20_2).f0))).setCell ⟨gb387, 1, none⟩ (.int .i64 ((rd_T47 l0_0 x20_2).f1))).setCell ⟨gb387, 2, none⟩ (.int .i64 ((rd_T47 l0_0 x20_2).f2))).setCell ⟨gb387, 3, none⟩ (.slice A386_3 ((rd_T47 l0_0 x20_2).f3).length c386_3)).setCell ⟨gb387, 4, none⟩ (.slice A386_4 ((rd_T47 l0_0 x20_2).f4).length c386_4)).setCell ⟨gb387, 5, none⟩ (.slice A386_5 ((rd_T47 l0_0 x20_2).f5).length c386_5)) = w36
               replace BK384 := kw_ hW_ BK384
               replace BK387 := kv_ #[.int .i64 ((rd_T47 l0_0 x20_2).f0), .int .i64 ((rd_T47 l0_0 x20_2).f1), .int .i64 ((rd_T47 l0_0 x20_2).f2), .slice A386_3 ((rd_T47 l0_0 x20_2).f3).length c386_3, .slice A386_4 ((rd_T47 l0_0 x20_2).f4).length c386_4, .slice A386_5 ((rd_T47 l0_0 x20_2).f5).length c386_5] hW_ BK387
               replace HB := hw_ hW_ HB
               clear hW_
               replace BK384 := Aside0.mk (blk_drew BK384.out)
               replace BK387 := Aside0.mk (blk_drew BK387.out)
               replace HB := Aside0.mk (below_drew1 HB.out)
               have p389 : (0 ≤ ((ji23) : Int)) = True := oT
               have q389 : ((ji23) < (l0_0.length : Int)) = True := oT
               obtain ⟨ad389, A389_3, c389_3, A389_4, c389_4, A389_5, c389_5, e389, hx389_0, hx389_1, hx389_2, hx389_3, hx389_4, hx389_5, hl389_3, hi389_3, hl389_4, hi389_4, hl389_5, hi389_5⟩ := at_T47 HR0_0.out (ji23) oa oa
               have hw389_5 := hx389_5
               have hw389_4 := hx389_4
               have hw389_3 := hx389_3
               have hw389_2 := hx389_2
               have hw389_1 := hx389_1
               have hw389_0 := hx389_0
               obtain rfl : ad386 = ad389 := (by injection e389)
               replace hx389_0 := cB HB hx389_0
               replace hx389_1 := cB HB hx389_1
               replace hx389_2 := cB HB hx389_2
               replace hx389_3 := cB HB hx389_3
               replace hx389_4 := cB HB hx389_4
               replace hx389_5 := cB HB hx389_5
               have HR389_3 := Aside0.mk hi389_3
               have HC389_3 := Aside0.mk hl389_3
               clear hi389_3 hl389_3
               have HR389_4 := Aside0.mk hi389_4
               have HC389_4 := Aside0.mk hl389_4
               clear hi389_4 hl389_4
               have HR389_5 := Aside0.mk hi389_5
               have HC389_5 := Aside0.mk hl389_5
               clear hi389_5 hl389_5
               refine st_ 26 (fun w' => w'.cell? ⟨gb387, 0, none⟩ = some (.int .i64 ((rd_T47 l0_0 x20_2).f0)) ∧ w'.cell? ⟨gb387, 1, none⟩ = some (.int .i64 ((rd_T47 l0_0 x20_2).f1)) ∧ w'.cell? ⟨gb387, 2, none⟩ = some (.int .i64 ((rd_T47 l0_0 x20_2).f2)) ∧ w'.cell? ⟨gb387, 3, none⟩ = some (.slice A386_3 ((rd_T47 l0_0 x20_2).f3).length c386_3) ∧ w'.cell? ⟨gb387, 4, none⟩ = some (.slice A386_4 ((rd_T47 l0_0 x20_2).f4).length c386_4) ∧ w'.cell? ⟨gb387, 5, none⟩ = some (.slice A386_5 ((rd_T47 l0_0 x20_2).f5).length c386_5) ∧ w'.cell? ⟨gb384, 0, none⟩ = some (.slice (some ad386) l0_0.length c0_0) ∧ w'.cell? ⟨gb384, 1, none⟩ = some (.int .i64 a0_1) ∧ w'.cell? (ad386.add (((ji23)).toNat * 6)) = some (.int .i64 ((rd_T47 l0_0 (ji23)).f0)) ∧ w'.cell? ⟨(ad386.add (((ji23)).toNat * 6)).block, (ad386.add (((ji23)).toNat * 6)).off + 1, none⟩ = some (.int .i64 ((rd_T47 l0_0 (ji23)).f1)) ∧ w'.cell? ⟨(ad386.add (((ji23)).toNat * 6)).block, (ad386.add (((ji23)).toNat * 6)).off + 2, none⟩ = some (.int .i64 ((rd_T47 l0_0 (ji23)).f2)) ∧ w'.cell? ⟨(ad386.add (((ji23)).toNat * 6)).block, (ad386.add (((ji23)).toNat * 6)).off + 3, none⟩ = some (.slice A389_3 ((rd_T47 l0_0 (ji23)).f3).length c389_3) ∧ w'.cell? ⟨(ad386.add (((ji23)).toNat * 6)).block, (ad386.add (((ji23)).toNat * 6)).off + 4, none⟩ = some (.slice A389_4 ((rd_T47 l0_0 (ji23)).f4).length c389_4) ∧ w'.cell? ⟨(ad386.add (((ji23)).toNat * 6)).block, (ad386.add (((ji23)).toNat * 6)).off + 5, none⟩ = some (.slice A389_5 ((rd_T47 l0_0 (ji23)).f5).length c389_5)) impl_TabOk.tab6 impl_TabOk.bits6 oH (fun hHeld HT_ HW_ => ?_)
               generalize w36.drew = w37 at BK384 BK387 HB HR389_3 HR389_4 HR389_5 hx389_0 hx389_1 hx389_2 hx389_3 hx389_4 hx389_5 hHeld ⊢
               refine ta_ 0 25 HT_ HW_ hHeld ?_
               refine on_ 1 26 HT_ (fun K hK => ?_)
               refine gr_ 26 Tryz.func54 (impl_InodeOk.calls k2 ((rd_T47 l0_0 x20_2).f0) ((rd_T47 l0_0 x20_2).f1) ((rd_T47 l0_0 x20_2).f2) _ _ ((rd_T47 l0_0 x20_2).f3) _ _ ((rd_T47 l0_0 x20_2).f4) _ _ ((rd_T47 l0_0 x20_2).f5) true _ (kC HR386_3) HC386_3.out (kC HR386_4) HC386_4.out (kC HR386_5) HC386_5.out A13.out) ?_
               rintro e w38 ⟨rfl, hb⟩
               refine ⟨_, rfl, ?_⟩
               replace BK384 := kb_ BK384 hb
               replace BK387 := kb_ BK387 hb
               replace HB := Aside0.mk (below_step oB hb)
               refine hk_ hK 26 oH (fun hHeld => ?_)
               clear hK K
               refine pu_ 2 27 HT_ ?_
               refine pu_ 3 28 HT_ ?_
               refine pu_ 4 29 HT_ ?_
               refine pu_ 6 31 HT_ ?_
               refine ta_ 5 30 HT_ HW_ hHeld ?_
               refine ta_ 7 32 HT_ HW_ hHeld ?_
               refine pu_ 8 33 HT_ ?_
               refine pu_ 9 34 HT_ ?_
               refine pu_ 10 35 HT_ ?_
               refine pu_ 11 36 HT_ ?_
               refine pu_ 12 37 HT_ ?_
               refine pu_ 13 38 HT_ ?_
               refine pu_ 14 39 HT_ ?_
               refine pu_ 16 41 HT_ ?_
               refine pu_ 17 42 HT_ ?_
               refine pu_ 21 46 HT_ ?_
               refine ta_ 15 40 HT_ HW_ hHeld ?_
               refine pu_ 18 43 HT_ ?_
               refine pu_ 19 44 HT_ ?_
               refine ta_ 20 45 HT_ HW_ hHeld ?_
               refine ta_ 22 47 HT_ HW_ hHeld ?_
               refine pu_ 23 48 HT_ ?_
               refine pu_ 24 49 HT_ ?_
               refine pu_ 25 50 HT_ ?_
               refine dn_ HT_ ?_
               try go_wp2
               go_roundg k2
               case measure => have := HJ1.out; have := HK2.out; omega
               case rel => exact ⟨(wrap64 (x20_2 + 1)), oS, H', ⟨by have := HJ1.out; have := HK2.out; omega⟩, ⟨oF BK384⟩, ⟨oB⟩⟩
             ·cases H
            ·cases H
           ·have H' := Aside0.mk H
            clear H
            have p386 : (0 ≤ (x20_2 : Int)) = True := oT
            have q386 : (x20_2 < (l0_0.length : Int)) = True := oT
            obtain ⟨ad386, A386_3, c386_3, A386_4, c386_4, A386_5, c386_5, e386, hx386_0, hx386_1, hx386_2, hx386_3, hx386_4, hx386_5, hl386_3, hi386_3, hl386_4, hi386_4, hl386_5, hi386_5⟩ := at_T47 HR0_0.out x20_2 oa oa
            cases e386
            replace hx386_0 := cB HB hx386_0
            replace hx386_1 := cB HB hx386_1
            replace hx386_2 := cB HB hx386_2
            replace hx386_3 := cB HB hx386_3
            replace hx386_4 := cB HB hx386_4
            replace hx386_5 := cB HB hx386_5
            have HR386_3 := Aside0.mk hi386_3
            have HC386_3 := Aside0.mk hl386_3
            clear hi386_3 hl386_3
            have HR386_4 := Aside0.mk hi386_4
            have HC386_4 := Aside0.mk hl386_4
            clear hi386_4 hl386_4
            have HR386_5 := Aside0.mk hi386_5
            have HC386_5 := Aside0.mk hl386_5
            clear hi386_5 hl386_5
            try go_wp2_with (first | ((with_reducible refine gate_dst (N := 4) rfl ?_); refine bx_ 4 #[.int .i64 0, .int .i64 0, .int .i64 0, .slice none 0 0, .slice none 0 0, .slice none 0 0] 47 ?_; intro gb387 hg w39 hbox hb; have BK387 := Aside0.mk (hbox); have GW387 := gs_ hg; have NB384_387 := nl_ hg BK384; have NB387_384 := nr_ hg BK384; replace BK384 := kb_ BK384 hb; replace HB := Aside0.mk (below_step oB hb); clear hb hbox hg; have hnb40 := NB387_384.out; have hnc40 := NB384_387.out; obtain ⟨⟨_, _, _, _, _, _⟩, _, _, _, _, _, _⟩ := z6 BK387))
            generalize hW_ : ((((((w39.setCell ⟨gb387, 0, none⟩ (.int .i64 ((rd_T47 l0_0 x20_2).f0))).setCell ⟨gb387, 1, none⟩ (.int .i64 ((rd_T47 l0_0 x20_2).f1))).setCell ⟨gb387, 2, none⟩ (.int .i64 ((rd_T47 l0_0 x20_2).f2))).setCell ⟨gb387, 3, none⟩ (.slice A386_3 ((rd_T47 l0_0 x20_2).f3).length c386_3)).setCell ⟨gb387, 4, none⟩ (.slice A386_4 ((rd_T47 l0_0 x20_2).f4).length c386_4)).setCell ⟨gb387, 5, none⟩ (.slice A386_5 ((rd_T47 l0_0 x20_2).f5).length c386_5)) = w42
            replace BK384 := kw_ hW_ BK384
            replace BK387 := kv_ #[.int .i64 ((rd_T47 l0_0 x20_2).f0), .int .i64 ((rd_T47 l0_0 x20_2).f1), .int .i64 ((rd_T47 l0_0 x20_2).f2), .slice A386_3 ((rd_T47 l0_0 x20_2).f3).length c386_3, .slice A386_4 ((rd_T47 l0_0 x20_2).f4).length c386_4, .slice A386_5 ((rd_T47 l0_0 x20_2).f5).length c386_5] hW_ BK387
            replace HB := hw_ hW_ HB
            clear hW_
            replace BK384 := Aside0.mk (blk_drew BK384.out)
            replace BK387 := Aside0.mk (blk_drew BK387.out)
            replace HB := Aside0.mk (below_drew1 HB.out)
            refine st_ 26 (fun w' => w'.cell? ⟨gb387, 0, none⟩ = some (.int .i64 ((rd_T47 l0_0 x20_2).f0)) ∧ w'.cell? ⟨gb387, 1, none⟩ = some (.int .i64 ((rd_T47 l0_0 x20_2).f1)) ∧ w'.cell? ⟨gb387, 2, none⟩ = some (.int .i64 ((rd_T47 l0_0 x20_2).f2)) ∧ w'.cell? ⟨gb387, 3, none⟩ = some (.slice A386_3 ((rd_T47 l0_0 x20_2).f3).length c386_3) ∧ w'.cell? ⟨gb387, 4, none⟩ = some (.slice A386_4 ((rd_T47 l0_0 x20_2).f4).length c386_4) ∧ w'.cell? ⟨gb387, 5, none⟩ = some (.slice A386_5 ((rd_T47 l0_0 x20_2).f5).length c386_5) ∧ w'.cell? ⟨gb384, 0, none⟩ = some (.slice (some ad386) l0_0.length c0_0) ∧ w'.cell? ⟨gb384, 1, none⟩ = some (.int .i64 a0_1)) impl_TabOk.tab6 impl_TabOk.bits6 oH (fun hHeld HT_ HW_ => ?_)
            generalize w42.drew = w43 at BK384 BK387 HB hHeld ⊢
            refine ta_ 0 25 HT_ HW_ hHeld ?_
            refine on_ 1 26 HT_ (fun K hK => ?_)
            refine gr_ 26 Tryz.func54 (impl_InodeOk.calls k2 ((rd_T47 l0_0 x20_2).f0) ((rd_T47 l0_0 x20_2).f1) ((rd_T47 l0_0 x20_2).f2) _ _ ((rd_T47 l0_0 x20_2).f3) _ _ ((rd_T47 l0_0 x20_2).f4) _ _ ((rd_T47 l0_0 x20_2).f5) true _ (kC HR386_3) HC386_3.out (kC HR386_4) HC386_4.out (kC HR386_5) HC386_5.out A13.out) ?_
            rintro e w44 ⟨rfl, hb⟩
            refine ⟨_, rfl, ?_⟩
            replace BK384 := kb_ BK384 hb
            replace BK387 := kb_ BK387 hb
            replace HB := Aside0.mk (below_step oB hb)
            refine hk_ hK 26 oH (fun hHeld => ?_)
            clear hK K
            refine pu_ 2 27 HT_ ?_
            refine pu_ 3 28 HT_ ?_
            refine pu_ 4 29 HT_ ?_
            refine pu_ 6 31 HT_ ?_
            refine ta_ 5 30 HT_ HW_ hHeld ?_
            refine ta_ 7 32 HT_ HW_ hHeld ?_
            refine pu_ 8 33 HT_ ?_
            refine pu_ 9 34 HT_ ?_
            refine pu_ 10 35 HT_ ?_
            refine pu_ 11 36 HT_ ?_
            refine pu_ 12 37 HT_ ?_
            refine pu_ 13 38 HT_ ?_
            refine pn_ 14 39 HT_ ?_
            refine pn_ 15 40 HT_ ?_
            refine pn_ 16 41 HT_ ?_
            refine pn_ 17 42 HT_ ?_
            refine pn_ 18 43 HT_ ?_
            refine pn_ 19 44 HT_ ?_
            refine pn_ 20 45 HT_ ?_
            refine pn_ 21 46 HT_ ?_
            refine pn_ 22 47 HT_ ?_
            refine pn_ 23 48 HT_ ?_
            refine pu_ 24 49 HT_ ?_
            refine pu_ 25 50 HT_ ?_
            refine dn_ HT_ ?_
            try go_wp2
            go_roundg k2
            case measure => have := HJ1.out; have := HK2.out; omega
            case rel => exact ⟨(wrap64 (x20_2 + 1)), oS, H', ⟨by have := HJ1.out; have := HK2.out; omega⟩, ⟨oF BK384⟩, ⟨oB⟩⟩
         ·obtain rfl := Option.some.inj H
          have p386 : (0 ≤ (x20_2 : Int)) = True := oT
          have q386 : (x20_2 < (l0_0.length : Int)) = True := oT
          obtain ⟨ad386, A386_3, c386_3, A386_4, c386_4, A386_5, c386_5, e386, hx386_0, hx386_1, hx386_2, hx386_3, hx386_4, hx386_5, hl386_3, hi386_3, hl386_4, hi386_4, hl386_5, hi386_5⟩ := at_T47 HR0_0.out x20_2 oa oa
          cases e386
          replace hx386_0 := cB HB hx386_0
          replace hx386_1 := cB HB hx386_1
          replace hx386_2 := cB HB hx386_2
          replace hx386_3 := cB HB hx386_3
          replace hx386_4 := cB HB hx386_4
          replace hx386_5 := cB HB hx386_5
          have HR386_3 := Aside0.mk hi386_3
          have HC386_3 := Aside0.mk hl386_3
          clear hi386_3 hl386_3
          have HR386_4 := Aside0.mk hi386_4
          have HC386_4 := Aside0.mk hl386_4
          clear hi386_4 hl386_4
          have HR386_5 := Aside0.mk hi386_5
          have HC386_5 := Aside0.mk hl386_5
          clear hi386_5 hl386_5
          try go_wp2_with (first | ((with_reducible refine gate_dst (N := 4) rfl ?_); refine bx_ 4 #[.int .i64 0, .int .i64 0, .int .i64 0, .slice none 0 0, .slice none 0 0, .slice none 0 0] 47 ?_; intro gb387 hg w45 hbox hb; have BK387 := Aside0.mk (hbox); have GW387 := gs_ hg; have NB384_387 := nl_ hg BK384; have NB387_384 := nr_ hg BK384; replace BK384 := kb_ BK384 hb; replace HB := Aside0.mk (below_step oB hb); clear hb hbox hg; have hnb46 := NB387_384.out; have hnc46 := NB384_387.out; obtain ⟨⟨_, _, _, _, _, _⟩, _, _, _, _, _, _⟩ := z6 BK387))
          generalize hW_ : ((((((w45.setCell ⟨gb387, 0, none⟩ (.int .i64 ((rd_T47 l0_0 x20_2).f0))).setCell ⟨gb387, 1, none⟩ (.int .i64 ((rd_T47 l0_0 x20_2).f1))).setCell ⟨gb387, 2, none⟩ (.int .i64 ((rd_T47 l0_0 x20_2).f2))).setCell ⟨gb387, 3, none⟩ (.slice A386_3 ((rd_T47 l0_0 x20_2).f3).length c386_3)).setCell ⟨gb387, 4, none⟩ (.slice A386_4 ((rd_T47 l0_0 x20_2).f4).length c386_4)).setCell ⟨gb387, 5, none⟩ (.slice A386_5 ((rd_T47 l0_0 x20_2).f5).length c386_5)) = w48
          replace BK384 := kw_ hW_ BK384
          replace BK387 := kv_ #[.int .i64 ((rd_T47 l0_0 x20_2).f0), .int .i64 ((rd_T47 l0_0 x20_2).f1), .int .i64 ((rd_T47 l0_0 x20_2).f2), .slice A386_3 ((rd_T47 l0_0 x20_2).f3).length c386_3, .slice A386_4 ((rd_T47 l0_0 x20_2).f4).length c386_4, .slice A386_5 ((rd_T47 l0_0 x20_2).f5).length c386_5] hW_ BK387
          replace HB := hw_ hW_ HB
          clear hW_
          replace BK384 := Aside0.mk (blk_drew BK384.out)
          replace BK387 := Aside0.mk (blk_drew BK387.out)
          replace HB := Aside0.mk (below_drew1 HB.out)
          refine st_ 26 (fun w' => w'.cell? ⟨gb387, 0, none⟩ = some (.int .i64 ((rd_T47 l0_0 x20_2).f0)) ∧ w'.cell? ⟨gb387, 1, none⟩ = some (.int .i64 ((rd_T47 l0_0 x20_2).f1)) ∧ w'.cell? ⟨gb387, 2, none⟩ = some (.int .i64 ((rd_T47 l0_0 x20_2).f2)) ∧ w'.cell? ⟨gb387, 3, none⟩ = some (.slice A386_3 ((rd_T47 l0_0 x20_2).f3).length c386_3) ∧ w'.cell? ⟨gb387, 4, none⟩ = some (.slice A386_4 ((rd_T47 l0_0 x20_2).f4).length c386_4) ∧ w'.cell? ⟨gb387, 5, none⟩ = some (.slice A386_5 ((rd_T47 l0_0 x20_2).f5).length c386_5)) impl_TabOk.tab6 impl_TabOk.bits6 oH (fun hHeld HT_ HW_ => ?_)
          generalize w48.drew = w49 at BK384 BK387 HB hHeld ⊢
          refine ta_ 0 25 HT_ HW_ hHeld ?_
          refine on_ 1 26 HT_ (fun K hK => ?_)
          refine gr_ 26 Tryz.func54 (impl_InodeOk.calls k2 ((rd_T47 l0_0 x20_2).f0) ((rd_T47 l0_0 x20_2).f1) ((rd_T47 l0_0 x20_2).f2) _ _ ((rd_T47 l0_0 x20_2).f3) _ _ ((rd_T47 l0_0 x20_2).f4) _ _ ((rd_T47 l0_0 x20_2).f5) false _ (kC HR386_3) HC386_3.out (kC HR386_4) HC386_4.out (kC HR386_5) HC386_5.out A13.out) ?_
          rintro e w50 ⟨rfl, hb⟩
          refine ⟨_, rfl, ?_⟩
          replace BK384 := kb_ BK384 hb
          replace BK387 := kb_ BK387 hb
          replace HB := Aside0.mk (below_step oB hb)
          refine hk_ hK 26 oH (fun hHeld => ?_)
          clear hK K
          refine pu_ 2 27 HT_ ?_
          refine pu_ 3 28 HT_ ?_
          refine pn_ 4 29 HT_ ?_
          refine pn_ 5 30 HT_ ?_
          refine pn_ 6 31 HT_ ?_
          refine pn_ 7 32 HT_ ?_
          refine pn_ 8 33 HT_ ?_
          refine pu_ 9 34 HT_ ?_
          refine pu_ 10 35 HT_ ?_
          refine pn_ 11 36 HT_ ?_
          refine pn_ 12 37 HT_ ?_
          refine pn_ 13 38 HT_ ?_
          refine pn_ 14 39 HT_ ?_
          refine pn_ 15 40 HT_ ?_
          refine pn_ 16 41 HT_ ?_
          refine pn_ 17 42 HT_ ?_
          refine pn_ 18 43 HT_ ?_
          refine pn_ 19 44 HT_ ?_
          refine pn_ 20 45 HT_ ?_
          refine pn_ 21 46 HT_ ?_
          refine pn_ 22 47 HT_ ?_
          refine pn_ 23 48 HT_ ?_
          refine pn_ 24 49 HT_ ?_
          refine pu_ 25 50 HT_ ?_
          refine dn_ HT_ ?_
          try go_wp2
          go_ret
          exact ⟨oE, oB⟩
        ·cases H
       ·cases H
      ·replace H := bA H
       obtain ⟨⟨t390, t391, t392, t393, t396, t399, t402⟩, A51, H⟩ := H
       try dsimp only at H
       replace H := itB H
       rcases H with ⟨rfl, H⟩ | ⟨rfl, H⟩
       ·obtain rfl := Option.some.inj H
        obtain ⟨⟨_, _⟩, _, _⟩ := z2 BK384
        go_wp2_with (first | ((with_reducible refine gate_callee (f := 19) rfl ?_); refine gl_ 54 Tryz.func19 (impl_InodeAt.calls k2 _ _ l0_0 a0_1 1 t390 t391 t392 t393 t396 t399 true _ (kC HR0_0) HC0_0.out A51.out) ?_; rintro e w54 ⟨v394, v397, v400, rfl, ho0, ho1, ho2, hb⟩; refine ⟨_, rfl, ?_⟩; have HO395 := Aside0.mk (Kd.R_lower ho0 (below_size oB)); have HO398 := Aside0.mk (Kd.R_lower ho1 (below_size oB)); have HO401 := Aside0.mk (Kd.R_lower ho2 (below_size oB)); replace BK384 := kb_ BK384 hb; replace HB := Aside0.mk (below_step oB hb); (try clear ho1); (try clear ho2)) | ((with_reducible refine gate_dst (N := 5) rfl ?_); refine bx_ 5 #[.int .i64 0, .int .i64 0, .int .i64 0, .slice none 0 0, .slice none 0 0, .slice none 0 0] 47 ?_; intro gb403 hg w55 hbox hb; have BK403 := Aside0.mk (hbox); have GW403 := gs_ hg; have NB384_403 := nl_ hg BK384; have NB403_384 := nr_ hg BK384; replace HO395 := kr_ HO395 hb; replace HO398 := kr_ HO398 hb; replace HO401 := kr_ HO401 hb; replace BK384 := kb_ BK384 hb; replace HB := Aside0.mk (below_step oB hb); clear hb hbox hg; have hnb56 := NB403_384.out; have hnc56 := NB384_403.out; obtain ⟨⟨_, _, _, _, _, _⟩, _, _, _, _, _, _⟩ := z6 BK403; obtain ⟨Ao58, co58, eo58⟩ := Kd.R_slice HO395.out; subst eo58; obtain ⟨Ao59, co59, eo59⟩ := Kd.R_slice HO398.out; subst eo59; obtain ⟨Ao60, co60, eo60⟩ := Kd.R_slice HO401.out; subst eo60))
        go_ret
        exact ⟨oE, oB⟩
       ·obtain rfl := Option.some.inj H
        obtain ⟨⟨_, _⟩, _, _⟩ := z2 BK384
        go_wp2_with (first | ((with_reducible refine gate_callee (f := 19) rfl ?_); refine gl_ 54 Tryz.func19 (impl_InodeAt.calls k2 _ _ l0_0 a0_1 1 t390 t391 t392 t393 t396 t399 false _ (kC HR0_0) HC0_0.out A51.out) ?_; rintro e w62 ⟨v394, v397, v400, rfl, ho0, ho1, ho2, hb⟩; refine ⟨_, rfl, ?_⟩; have HO395 := Aside0.mk (Kd.R_lower ho0 (below_size oB)); have HO398 := Aside0.mk (Kd.R_lower ho1 (below_size oB)); have HO401 := Aside0.mk (Kd.R_lower ho2 (below_size oB)); replace BK384 := kb_ BK384 hb; replace HB := Aside0.mk (below_step oB hb); (try clear ho1); (try clear ho2)) | ((with_reducible refine gate_dst (N := 5) rfl ?_); refine bx_ 5 #[.int .i64 0, .int .i64 0, .int .i64 0, .slice none 0 0, .slice none 0 0, .slice none 0 0] 47 ?_; intro gb403 hg w63 hbox hb; have BK403 := Aside0.mk (hbox); have GW403 := gs_ hg; have NB384_403 := nl_ hg BK384; have NB403_384 := nr_ hg BK384; replace HO395 := kr_ HO395 hb; replace HO398 := kr_ HO398 hb; replace HO401 := kr_ HO401 hb; replace BK384 := kb_ BK384 hb; replace HB := Aside0.mk (below_step oB hb); clear hb hbox hg; have hnb64 := NB403_384.out; have hnc64 := NB384_403.out; obtain ⟨⟨_, _, _, _, _, _⟩, _, _, _, _, _, _⟩ := z6 BK403; obtain ⟨Ao66, co66, eo66⟩ := Kd.R_slice HO395.out; subst eo66; obtain ⟨Ao67, co67, eo67⟩ := Kd.R_slice HO398.out; subst eo67; obtain ⟨Ao68, co68, eo68⟩ := Kd.R_slice HO401.out; subst eo68))
        go_ret
        exact ⟨oE, oB⟩

end Go.Proofs.YtolkhimbfegkkaaGreat.P
