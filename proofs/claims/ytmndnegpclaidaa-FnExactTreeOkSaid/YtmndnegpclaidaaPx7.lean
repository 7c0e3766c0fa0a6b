-- By this session's own program (wip/myprint.py) out of the translation; Lean checks it.
import Derived.Test.YtmndnegpclaidaaPx0
import Derived.Test.YtmndnegpclaidaaPx5
import Derived.Test.YtmndnegpclaidaaPx6
namespace Go.Proofs.Ytmndnegpclaidaa.P
open Go.RowKit Go.Proofs.YtmndnegpclaidaaW.PrintWords Go.Proofs.YtmndnegpclaidaaW.PrintLast Go.Proofs.YtmndnegpclaidaaW.PrintMore
attribute [local go_sem] max2_int min2_int max_two min_two max_three min_three max_four min_four   -- for this text's walks alone
set_option linter.unusedVariables false
set_option linter.unusedSimpArgs false

/-! ### impl_TabOk: function 62 -/
mutual
def impl_TabOk.j0 : Nat → Bool → List (S40) → Int → Option (Bool)
 | 0, _, _, _ => none
 | k + 1, x16, x430000, x430001 => if x16 = true then (some false) else (impl_TabOk.l0 k x430000 (x430000.length : Int) 0 x430000 x430001)
def impl_TabOk.l0 : Nat → List (S40) → Int → Int → List (S40) → Int → Option (Bool)
 | 0, _, _, _, _, _ => none
 | k + 1, x18, x19, x20, x430000, x430001 => if x20 < x19 then (if 0 ≤ x20 then (if x20 < (x18.length : Int) then ((impl_InodeOk.f k ((rd_T40 x18 x20).f0) ((rd_T40 x18 x20).f1) ((rd_T40 x18 x20).f2) ((rd_T40 x18 x20).f3) ((rd_T40 x18 x20).f4) ((rd_T40 x18 x20).f5)).bind fun t433 => (if t433 = true then (if ((rd_T40 x18 x20).f0) ≥ x430001 then (some false) else (if x20 > 0 then (if 0 ≤ (wrap64 (x20 - 1)) then (if (wrap64 (x20 - 1)) < (x430000.length : Int) then (if ((rd_T40 x430000 (wrap64 (x20 - 1))).f0) ≥ ((rd_T40 x18 x20).f0) then (some false) else (impl_TabOk.l0 k x18 x19 (wrap64 (x20 + 1)) x430000 x430001)) else (none)) else (none)) else (impl_TabOk.l0 k x18 x19 (wrap64 (x20 + 1)) x430000 x430001))) else (some false))) else (none)) else (none)) else ((impl_InodeAt.f k x430000 x430001 1).bind fun bt435 => (if bt435.2.2.2.2.2.2 = true then (some (bt435.2.1 == 2)) else (some false)))
end
def impl_TabOk.f (k : Nat) (l0_0 : List (S40)) (a0_1 : Int) : Option (Bool) := if (l0_0.length : Int) > 30 then (impl_TabOk.j0 k true l0_0 a0_1) else ((impl_from.f a0_1 2 1000).bind fun t430 => (impl_TabOk.j0 k (!t430) l0_0 a0_1))
def impl_TabOk.T6 : Bool × List (List Nat × List Nat) := (true, [([], []), ([0], [0]), ([1], [1]), ([2, 1], [2]), ([3], [3]), ([4, 3], [3, 4]), ([3], [3]), ([6, 3], [3, 6]), ([5, 7, 3], [3, 5, 7]), ([3, 8], [3, 8]), ([9, 3], [9]), ([10], [10]), ([11, 10], [10, 11]), ([12, 10, 10], [10, 12]), ([13], [13]), ([14, 13], [13, 14]), ([13], [13]), ([16, 13], [13, 16]), ([15, 17, 13], [13, 15, 17]), ([18, 13], [13, 18]), ([19, 13], [13, 19]), ([13], [13]), ([21, 13], [13, 21]), ([20, 22, 13], [13, 20, 22]), ([13, 23, 10], [10, 13, 23]), ([10, 24], [10, 24])])
def impl_TabOk.B6 : List Nat := [0, 1, 3, 7, 15, 31, 15, 79, 255, 511, 1023, 2047, 4095, 8191, 16383, 32767, 16383, 81919, 262143, 524287, 1048575, 16383, 2113535, 8388607, 16777215, 33554431]
theorem impl_TabOk.tab6 : rtab .any (opsOf Try.f62 6) = impl_TabOk.T6 := by kernel_rfl
theorem impl_TabOk.bits6 : waitsOk impl_TabOk.T6.2 impl_TabOk.B6 = true := by kernel_rfl
set_option maxHeartbeats 8000000 in
set_option maxRecDepth 100000 in
theorem impl_TabOk.calls (k : Nat) (A0_0 : Option Addr) (c0_0 : Nat) (l0_0 : List (S40)) (a0_1 : Int) (r : Bool) (w : World) (hr0_0 : Kd.C k40 w A0_0 l0_0.length l0_0) (hc0_0 : l0_0.length ≤ c0_0) (h : impl_TabOk.f k l0_0 a0_1 = some r) :
  Calls Try.prog 62 #[.agg #[.slice A0_0 l0_0.length c0_0, .int .i64 a0_1]] w fun e w' => e = .returned (.bool r) ∧ Below w.heap.size w w' := by
 have hu34 := Try.underlying34
 have hu40 := Try.underlying40
 have HR0_0 := Aside0.mk hr0_0
 have HC0_0 := Aside0.mk hc0_0
 clear hr0_0 hc0_0
 have HB := Aside0.mk (Below.refl w.heap.size w)
 unfold impl_TabOk.f at h
 have H := h
 clear h
 have HC2 := Aside0.mk H
 clear H
 go_enter Try.func62, Try.ntmps62
 go_upto_region 1 with (first | ((with_reducible refine gate_dst (N := 1) rfl ?_); refine bx_ 1 #[.slice A0_0 l0_0.length c0_0, .int .i64 a0_1] 34 ?_; intro gb429 hg w3 hbox hb; have BK429 := Aside0.mk (hbox); have GW429 := gs_ hg; replace HB := Aside0.mk (below_step oB hb); clear hb hbox hg))
 (try simp only [Act.put, List.setIfInBounds_toArray, List.set_cons_zero, List.set_cons_succ])
 go_cut [16] (fun v16 wc => ∃ (kq : Nat) (x16_1 : Bool), v16 = .bool x16_1 ∧ Aside0 (impl_TabOk.j0 kq x16_1 l0_0 a0_1 = some r) ∧ Aside0 (kq ≤ k) ∧ Aside0 (wc.heap[gb429]? = some (.cells #[(.slice A0_0 l0_0.length c0_0), .int .i64 a0_1] 34 (0, 0))) ∧ Aside0 (Below w.heap.size w wc))
 case first =>
  have H := HC2.out
  clear HC2
  by_cases c4 : (l0_0.length : Int) > 30
  ·rw [if_pos c4] at H
   have c4b0 : decide (30 < (l0_0.length : Int)) = true := decide_eq_true c4
   have c4b1 : decide (30 < l0_0.length) = true := decide_eq_true (by omega)
   clear c4
   (first | rw [c4b0] | rw [c4b2] | (simp only [i64_w, i32_w]; rw [c4b0]) | skip)
   have H' := Aside0.mk H
   clear H
   obtain ⟨⟨_, _⟩, _, _⟩ := z2 BK429
   go_wp2
   go_meet
   case rel => exact ⟨_, (true), oS, H', ⟨by first | omega | exact Nat.le_refl _⟩, ⟨oF BK429⟩, ⟨oB⟩⟩
  ·rw [if_neg c4] at H
   have c4b0 : decide (30 < (l0_0.length : Int)) = false := decide_eq_false c4
   have c4b1 : decide (30 < l0_0.length) = false := decide_eq_false (by omega)
   clear c4
   (first | rw [c4b0] | rw [c4b2] | (simp only [i64_w, i32_w]; rw [c4b0]) | skip)
   replace H := bA H
   obtain ⟨t430, A6, H⟩ := H
   try dsimp only at H
   have H' := Aside0.mk H
   clear H
   obtain ⟨⟨_, _⟩, _, _⟩ := z2 BK429
   go_wp2_with (first | (go_at_call 96; (with_reducible refine (impl_from.calls a0_1 2 1000 t430 _ A6.out).mono ?_); rintro e w' ⟨rfl, ⟨nd, rfl⟩⟩))
   go_meet
   case rel => exact ⟨_, (!t430), oS, H', ⟨by first | omega | exact Nat.le_refl _⟩, ⟨oF BK429⟩, ⟨oB⟩⟩
 case rest =>
  clear HC2
  obtain ⟨kq, x16_1, rfl, HA, HJ1, BK429, HB⟩ := hcut
  cases kq with
  | zero => exact absurd HA.out (by simp [impl_TabOk.j0])
  | succ kj1 =>
   have H := HA.out
   clear HA
   simp only [impl_TabOk.j0] at H
   replace H := itB H
   rcases H with ⟨rfl, H⟩ | ⟨rfl, H⟩
   ·obtain rfl := Option.some.inj H
    go_wp2
    go_ret
    exact ⟨oE, oB⟩
   ·have H' := Aside0.mk H
    clear H
    obtain ⟨⟨_, _⟩, _, _⟩ := z2 BK429
    go_wp2
    go_loopg [20] kj1 (fun kq v20 w' => ∃ (x20_2 : Int), v20 = .int .i64 x20_2 ∧ Aside0 (impl_TabOk.l0 kq l0_0 (l0_0.length : Int) x20_2 l0_0 a0_1 = some r) ∧ Aside0 (kq ≤ kj1) ∧ Aside0 (w'.heap[gb429]? = some (.cells #[(.slice A0_0 l0_0.length c0_0), .int .i64 a0_1] 34 (0, 0))) ∧ Aside0 (Below w.heap.size w w'))
    case atStart => exact ⟨(0), oS, H', ⟨Nat.le_refl _⟩, ⟨oF BK429⟩, ⟨oB⟩⟩
    case round =>
     clear H'
     obtain ⟨x20_2, rfl, HA, HK2, BK429, HB⟩ := hrel
     cases gk with
     | zero => exact absurd HA.out (by simp [impl_TabOk.l0])
     | succ k2 =>
      have H := HA.out
      clear HA
      simp only [impl_TabOk.l0] at H
      replace H := itD H
      rcases H with ⟨c10b0, H⟩ | ⟨c10b0, H⟩
      ·replace H := itD H
       rcases H with ⟨c11b0, H⟩ | ⟨c11b0, H⟩
       ·replace H := itD H
        rcases H with ⟨c12b0, H⟩ | ⟨c12b0, H⟩
        ·replace H := bA H
         obtain ⟨t433, A13, H⟩ := H
         try dsimp only at H
         replace H := itB H
         rcases H with ⟨rfl, H⟩ | ⟨rfl, H⟩
         ·replace H := itH H
          rcases H with ⟨c15b0, H⟩ | ⟨c15b0, H⟩
          ·obtain rfl := Option.some.inj H
           have p431 : (0 ≤ (x20_2 : Int)) = True := oT
           have q431 : (x20_2 < (l0_0.length : Int)) = True := oT
           obtain ⟨ad431, A431_3, c431_3, A431_4, c431_4, A431_5, c431_5, e431, hx431_0, hx431_1, hx431_2, hx431_3, hx431_4, hx431_5, hl431_3, hi431_3, hl431_4, hi431_4, hl431_5, hi431_5⟩ := at_T40 HR0_0.out x20_2 oa oa
           cases e431
           replace hx431_0 := cB HB hx431_0
           replace hx431_1 := cB HB hx431_1
           replace hx431_2 := cB HB hx431_2
           replace hx431_3 := cB HB hx431_3
           replace hx431_4 := cB HB hx431_4
           replace hx431_5 := cB HB hx431_5
           have HR431_3 := Aside0.mk hi431_3
           have HC431_3 := Aside0.mk hl431_3
           clear hi431_3 hl431_3
           have HR431_4 := Aside0.mk hi431_4
           have HC431_4 := Aside0.mk hl431_4
           clear hi431_4 hl431_4
           have HR431_5 := Aside0.mk hi431_5
           have HC431_5 := Aside0.mk hl431_5
           clear hi431_5 hl431_5
           try go_wp2_with (first | ((with_reducible refine gate_dst (N := 4) rfl ?_); refine bx_ 4 #[.int .i64 0, .int .i64 0, .int .i64 0, .slice none 0 0, .slice none 0 0, .slice none 0 0] 40 ?_; intro gb432 hg w16 hbox hb; have BK432 := Aside0.mk (hbox); have GW432 := gs_ hg; have NB429_432 := nl_ hg BK429; have NB432_429 := nr_ hg BK429; replace BK429 := kb_ BK429 hb; replace HB := Aside0.mk (below_step oB hb); clear hb hbox hg; have hnb17 := NB432_429.out; have hnc17 := NB429_432.out; obtain ⟨⟨_, _, _, _, _, _⟩, _, _, _, _, _, _⟩ := z6 BK432))
           generalize hW_ : ((((((w16.setCell ⟨gb432, 0, none⟩ (.int .i64 ((rd_T40 l0_0 x20_2).f0))).setCell ⟨gb432, 1, none⟩ (.int .i64 ((rd_T40 l0_0 x20_2).f1))).setCell ⟨gb432, 2, none⟩ (.int .i64 ((rd_T40 l0_0 x20_2).f2))).setCell ⟨gb432, 3, none⟩ (.slice A431_3 ((rd_T40 l0_0 x20_2).f3).length c431_3)).setCell ⟨gb432, 4, none⟩ (.slice A431_4 ((rd_T40 l0_0 x20_2).f4).length c431_4)).setCell ⟨gb432, 5, none⟩ (.slice A431_5 ((rd_T40 l0_0 x20_2).f5).length c431_5)) = w19
           replace BK429 := kw_ hW_ BK429
           replace BK432 := kv_ #[.int .i64 ((rd_T40 l0_0 x20_2).f0), .int .i64 ((rd_T40 l0_0 x20_2).f1), .int .i64 ((rd_T40 l0_0 x20_2).f2), .slice A431_3 ((rd_T40 l0_0 x20_2).f3).length c431_3, .slice A431_4 ((rd_T40 l0_0 x20_2).f4).length c431_4, .slice A431_5 ((rd_T40 l0_0 x20_2).f5).length c431_5] hW_ BK432
           replace HB := hw_ hW_ HB
           clear hW_
           replace BK429 := Aside0.mk (blk_drew BK429.out)
           replace BK432 := Aside0.mk (blk_drew BK432.out)
           replace HB := Aside0.mk (below_drew1 HB.out)
           refine st_ 26 (fun w' => w'.cell? ⟨gb432, 0, none⟩ = some (.int .i64 ((rd_T40 l0_0 x20_2).f0)) ∧ w'.cell? ⟨gb432, 1, none⟩ = some (.int .i64 ((rd_T40 l0_0 x20_2).f1)) ∧ w'.cell? ⟨gb432, 2, none⟩ = some (.int .i64 ((rd_T40 l0_0 x20_2).f2)) ∧ w'.cell? ⟨gb432, 3, none⟩ = some (.slice A431_3 ((rd_T40 l0_0 x20_2).f3).length c431_3) ∧ w'.cell? ⟨gb432, 4, none⟩ = some (.slice A431_4 ((rd_T40 l0_0 x20_2).f4).length c431_4) ∧ w'.cell? ⟨gb432, 5, none⟩ = some (.slice A431_5 ((rd_T40 l0_0 x20_2).f5).length c431_5) ∧ w'.cell? ⟨gb429, 0, none⟩ = some (.slice (some ad431) l0_0.length c0_0) ∧ w'.cell? ⟨gb429, 1, none⟩ = some (.int .i64 a0_1)) impl_TabOk.tab6 impl_TabOk.bits6 oH (fun hHeld HT_ HW_ => ?_)
           generalize w19.drew = w20 at BK429 BK432 HB hHeld ⊢
           refine ta_ 0 25 HT_ HW_ hHeld ?_
           refine on_ 1 26 HT_ (fun K hK => ?_)
           refine gr_ 26 Try.func97 (impl_InodeOk.calls k2 ((rd_T40 l0_0 x20_2).f0) ((rd_T40 l0_0 x20_2).f1) ((rd_T40 l0_0 x20_2).f2) _ _ ((rd_T40 l0_0 x20_2).f3) _ _ ((rd_T40 l0_0 x20_2).f4) _ _ ((rd_T40 l0_0 x20_2).f5) true _ (kC HR431_3) HC431_3.out (kC HR431_4) HC431_4.out (kC HR431_5) HC431_5.out A13.out) ?_
           rintro e w21 ⟨rfl, hb⟩
           refine ⟨_, rfl, ?_⟩
           replace BK429 := kb_ BK429 hb
           replace BK432 := kb_ BK432 hb
           replace HB := Aside0.mk (below_step oB hb)
           refine hk_ hK 26 oH (fun hHeld => ?_)
           clear hK K
           refine pu_ 2 27 HT_ ?_
           refine pu_ 3 28 HT_ ?_
           refine pu_ 4 29 HT_ ?_
           refine pu_ 6 31 HT_ ?_
           refine ta_ 5 30 HT_ HW_ hHeld ?_
           refine ta_ 7 32 HT_ HW_ hHeld ?_
           refine pu_ 8 33 HT_ ?_
           refine pu_ 9 34 HT_ ?_
           refine pu_ 10 35 HT_ ?_
           refine pn_ 11 36 HT_ ?_
           refine pn_ 12 37 HT_ ?_
           refine pn_ 13 38 HT_ ?_
           refine pn_ 14 39 HT_ ?_
           refine pn_ 15 40 HT_ ?_
           refine pn_ 16 41 HT_ ?_
           refine pn_ 17 42 HT_ ?_
           refine pn_ 18 43 HT_ ?_
           refine pn_ 19 44 HT_ ?_
           refine pn_ 20 45 HT_ ?_
           refine pn_ 21 46 HT_ ?_
           refine pn_ 22 47 HT_ ?_
           refine pn_ 23 48 HT_ ?_
           refine pn_ 24 49 HT_ ?_
           refine pu_ 25 50 HT_ ?_
           refine dn_ HT_ ?_
           try go_wp2
           go_ret
           exact ⟨oE, oB⟩
          ·replace H := itG H
           rcases H with ⟨c22b0, H⟩ | ⟨c22b0, H⟩
           ·obtain ⟨ji23, hji23⟩ : ∃ j_ : Int, (wrap64 (x20_2 - 1)) = j_ := ⟨_, rfl⟩
            replace H : (if 0 ≤ (ji23) then (if (ji23) < (l0_0.length : Int) then (if ((rd_T40 l0_0 (ji23)).f0) ≥ ((rd_T40 l0_0 x20_2).f0) then (some false) else (impl_TabOk.l0 k2 l0_0 (l0_0.length : Int) (wrap64 (x20_2 + 1)) l0_0 a0_1)) else (none)) else (none)) = some r := by first | (rw [hji23] at H; exact H) | (simp only [hji23] at H ⊢; exact H)
            (try rw [hji23] at A13)
            have hji23w : (IntKind.i64.wrap (x20_2 - 1)) = ji23 := (i64_w _).trans hji23
            replace H := itD H
            rcases H with ⟨c24b0, H⟩ | ⟨c24b0, H⟩
            ·replace H := itD H
             rcases H with ⟨c25b0, H⟩ | ⟨c25b0, H⟩
             ·replace H := itH H
              rcases H with ⟨c26b0, H⟩ | ⟨c26b0, H⟩
              ·obtain rfl := Option.some.inj H
               have p431 : (0 ≤ (x20_2 : Int)) = True := oT
               have q431 : (x20_2 < (l0_0.length : Int)) = True := oT
               obtain ⟨ad431, A431_3, c431_3, A431_4, c431_4, A431_5, c431_5, e431, hx431_0, hx431_1, hx431_2, hx431_3, hx431_4, hx431_5, hl431_3, hi431_3, hl431_4, hi431_4, hl431_5, hi431_5⟩ := at_T40 HR0_0.out x20_2 oa oa
               cases e431
               replace hx431_0 := cB HB hx431_0
               replace hx431_1 := cB HB hx431_1
               replace hx431_2 := cB HB hx431_2
               replace hx431_3 := cB HB hx431_3
               replace hx431_4 := cB HB hx431_4
               replace hx431_5 := cB HB hx431_5
               have HR431_3 := Aside0.mk hi431_3
               have HC431_3 := Aside0.mk hl431_3
               clear hi431_3 hl431_3
               have HR431_4 := Aside0.mk hi431_4
               have HC431_4 := Aside0.mk hl431_4
               clear hi431_4 hl431_4
               have HR431_5 := Aside0.mk hi431_5
               have HC431_5 := Aside0.mk hl431_5
               clear hi431_5 hl431_5
               try go_wp2_with (first | ((with_reducible refine gate_dst (N := 4) rfl ?_); refine bx_ 4 #[.int .i64 0, .int .i64 0, .int .i64 0, .slice none 0 0, .slice none 0 0, .slice none 0 0] 40 ?_; intro gb432 hg w27 hbox hb; have BK432 := Aside0.mk (hbox); have GW432 := gs_ hg; have NB429_432 := nl_ hg BK429; have NB432_429 := nr_ hg BK429; replace BK429 := kb_ BK429 hb; replace HB := Aside0.mk (below_step oB hb); clear hb hbox hg; have hnb28 := NB432_429.out; have hnc28 := NB429_432.out; obtain ⟨⟨_, _, _, _, _, _⟩, _, _, _, _, _, _⟩ := z6 BK432))
               generalize hW_ : ((((((w27.setCell ⟨gb432, 0, none⟩ (.int .i64 ((rd_T40 l0_0 x20_2).f0))).setCell ⟨gb432, 1, none⟩ (.int .i64 ((rd_T40 l0_0 x20_2).f1))).setCell ⟨gb432, 2, none⟩ (.int .i64 ((rd_T40 l0_0 x20_2).f2))).setCell ⟨gb432, 3, none⟩ (.slice A431_3 ((rd_T40 l0_0 x20_2).f3).length c431_3)).setCell ⟨gb432, 4, none⟩ (.slice A431_4 ((rd_T40 l0_0 x20_2).f4).length c431_4)).setCell ⟨gb432, 5, none⟩ (.slice A431_5 ((rd_T40 l0_0 x20_2).f5).length c431_5)) = w30
               replace BK429 := kw_ hW_ BK429
               replace BK432 := kv_ #[.int .i64 ((rd_T40 l0_0 x20_2).f0), .int .i64 ((rd_T40 l0_0 x20_2).f1), .int .i64 ((rd_T40 l0_0 x20_2).f2), .slice A431_3 ((rd_T40 l0_0 x20_2).f3).length c431_3, .slice A431_4 ((rd_T40 l0_0 x20_2).f4).length c431_4, .slice A431_5 ((rd_T40 l0_0 x20_2).f5).length c431_5] hW_ BK432
               replace HB := hw_ hW_ HB
               clear hW_
               replace BK429 := Aside0.mk (blk_drew BK429.out)
               replace BK432 := Aside0.mk (blk_drew BK432.out)
               replace HB := Aside0.mk (below_drew1 HB.out)
               have p434 : (0 ≤ ((ji23) : Int)) = True := oT
               have q434 : ((ji23) < (l0_0.length : Int)) = True := oT
               obtain ⟨ad434, A434_3, c434_3, A434_4, c434_4, A434_5, c434_5, e434, hx434_0, hx434_1, hx434_2, hx434_3, hx434_4, hx434_5, hl434_3, hi434_3, hl434_4, hi434_4, hl434_5, hi434_5⟩ := at_T40 HR0_0.out (ji23) oa oa
               have hw434_5 := hx434_5
               have hw434_4 := hx434_4
               have hw434_3 := hx434_3
               have hw434_2 := hx434_2
               have hw434_1 := hx434_1
               have hw434_0 := hx434_0
               obtain rfl : ad431 = ad434 := (by injection e434)
               replace hx434_0 := cB HB hx434_0
               replace hx434_1 := cB HB hx434_1
               replace hx434_2 := cB HB hx434_2
               replace hx434_3 := cB HB hx434_3
               replace hx434_4 := cB HB hx434_4
               replace hx434_5 := cB HB hx434_5
               have HR434_3 := Aside0.mk hi434_3
               have HC434_3 := Aside0.mk hl434_3
               clear hi434_3 hl434_3
               have HR434_4 := Aside0.mk hi434_4
               have HC434_4 := Aside0.mk hl434_4
               clear hi434_4 hl434_4
               have HR434_5 := Aside0.mk hi434_5
               have HC434_5 := Aside0.mk hl434_5
               clear hi434_5 hl434_5
               refine st_ 26 (fun w' => w'.cell? ⟨gb432, 0, none⟩ = some (.int .i64 ((rd_T40 l0_0 x20_2).f0)) ∧ w'.cell? ⟨gb432, 1, none⟩ = some (.int .i64 ((rd_T40 l0_0 x20_2).f1)) ∧ w'.cell? ⟨gb432, 2, none⟩ = some (.int .i64 ((rd_T40 l0_0 x20_2).f2)) ∧ w'.cell? ⟨gb432, 3, none⟩ = some (.slice A431_3 ((rd_T40 l0_0 x20_2).f3).length c431_3) ∧ w'.cell? ⟨gb432, 4, none⟩ = some (.slice A431_4 ((rd_T40 l0_0 x20_2).f4).length c431_4) ∧ w'.cell? ⟨gb432, 5, none⟩ = some (.slice A431_5 ((rd_T40 l0_0 x20_2).f5).length c431_5) ∧ w'.cell? ⟨gb429, 0, none⟩ = some (.slice (some ad431) l0_0.length c0_0) ∧ w'.cell? ⟨gb429, 1, none⟩ = some (.int .i64 a0_1) ∧ w'.cell? (ad431.add (((ji23)).toNat * 6)) = some (.int .i64 ((rd_T40 l0_0 (ji23)).f0)) ∧ w'.cell? ⟨(ad431.add (((ji23)).toNat * 6)).block, (ad431.add (((ji23)).toNat * 6)).off + 1, none⟩ = some (.int .i64 ((rd_T40 l0_0 (ji23)).f1)) ∧ w'.cell? ⟨(ad431.add (((ji23)).toNat * 6)).block, (ad431.add (((ji23)).toNat * 6)).off + 2, none⟩ = some (.int .i64 ((rd_T40 l0_0 (ji23)).f2)) ∧ w'.cell? ⟨(ad431.add (((ji23)).toNat * 6)).block, (ad431.add (((ji23)).toNat * 6)).off + 3, none⟩ = some (.slice A434_3 ((rd_T40 l0_0 (ji23)).f3).length c434_3) ∧ w'.cell? ⟨(ad431.add (((ji23)).toNat * 6)).block, (ad431.add (((ji23)).toNat * 6)).off + 4, none⟩ = some (.slice A434_4 ((rd_T40 l0_0 (ji23)).f4).length c434_4) ∧ w'.cell? ⟨(ad431.add (((ji23)).toNat * 6)).block, (ad431.add (((ji23)).toNat * 6)).off + 5, none⟩ = some (.slice A434_5 ((rd_T40 l0_0 (ji23)).f5).length c434_5)) impl_TabOk.tab6 impl_TabOk.bits6 oH (fun hHeld HT_ HW_ => ?_)
               generalize w30.drew = w31 at BK429 BK432 HB HR434_3 HR434_4 HR434_5 hx434_0 hx434_1 hx434_2 hx434_3 hx434_4 hx434_5 hHeld ⊢
               refine ta_ 0 25 HT_ HW_ hHeld ?_
               refine on_ 1 26 HT_ (fun K hK => ?_)
               refine gr_ 26 Try.func97 (impl_InodeOk.calls k2 ((rd_T40 l0_0 x20_2).f0) ((rd_T40 l0_0 x20_2).f1) ((rd_T40 l0_0 x20_2).f2) _ _ ((rd_T40 l0_0 x20_2).f3) _ _ ((rd_T40 l0_0 x20_2).f4) _ _ ((rd_T40 l0_0 x20_2).f5) true _ (kC HR431_3) HC431_3.out (kC HR431_4) HC431_4.out (kC HR431_5) HC431_5.out A13.out) ?_
               rintro e w32 ⟨rfl, hb⟩
               refine ⟨_, rfl, ?_⟩
               replace BK429 := kb_ BK429 hb
               replace BK432 := kb_ BK432 hb
               replace HB := Aside0.mk (below_step oB hb)
               refine hk_ hK 26 oH (fun hHeld => ?_)
               clear hK K
               refine pu_ 2 27 HT_ ?_
               refine pu_ 3 28 HT_ ?_
               refine pu_ 4 29 HT_ ?_
               refine pu_ 6 31 HT_ ?_
               refine ta_ 5 30 HT_ HW_ hHeld ?_
               refine ta_ 7 32 HT_ HW_ hHeld ?_
               refine pu_ 8 33 HT_ ?_
               refine pu_ 9 34 HT_ ?_
               refine pu_ 10 35 HT_ ?_
               refine pu_ 11 36 HT_ ?_
               refine pu_ 12 37 HT_ ?_
               refine pu_ 13 38 HT_ ?_
               refine pu_ 14 39 HT_ ?_
               refine pu_ 16 41 HT_ ?_
               refine pu_ 17 42 HT_ ?_
               refine pu_ 21 46 HT_ ?_
               refine ta_ 15 40 HT_ HW_ hHeld ?_
               refine pu_ 18 43 HT_ ?_
               refine pu_ 19 44 HT_ ?_
               refine ta_ 20 45 HT_ HW_ hHeld ?_
               refine ta_ 22 47 HT_ HW_ hHeld ?_
               refine pu_ 23 48 HT_ ?_
               refine pu_ 24 49 HT_ ?_
               refine pu_ 25 50 HT_ ?_
               refine dn_ HT_ ?_
               try go_wp2
               go_ret
               exact ⟨by first | rfl | (simp [errW_none, errW_some] <;> rfl) | (simp only [← hji23]; first | rfl | (simp [errW_none, errW_some] <;> rfl)) | (simp [*, errW_none, errW_some] <;> rfl), oB⟩
              ·have H' := Aside0.mk H
               clear H
               have p431 : (0 ≤ (x20_2 : Int)) = True := oT
               have q431 : (x20_2 < (l0_0.length : Int)) = True := oT
               obtain ⟨ad431, A431_3, c431_3, A431_4, c431_4, A431_5, c431_5, e431, hx431_0, hx431_1, hx431_2, hx431_3, hx431_4, hx431_5, hl431_3, hi431_3, hl431_4, hi431_4, hl431_5, hi431_5⟩ := at_T40 HR0_0.out x20_2 oa oa
               cases e431
               replace hx431_0 := cB HB hx431_0
               replace hx431_1 := cB HB hx431_1
               replace hx431_2 := cB HB hx431_2
               replace hx431_3 := cB HB hx431_3
               replace hx431_4 := cB HB hx431_4
               replace hx431_5 := cB HB hx431_5
               have HR431_3 := Aside0.mk hi431_3
               have HC431_3 := Aside0.mk hl431_3
               clear hi431_3 hl431_3
               have HR431_4 := Aside0.mk hi431_4
               have HC431_4 := Aside0.mk hl431_4
               clear hi431_4 hl431_4
               have HR431_5 := Aside0.mk hi431_5
               have HC431_5 := Aside0.mk hl431_5
               clear hi431_5 hl431_5
               try go_wp2_with (first | ((with_reducible refine gate_dst (N := 4) rfl ?_); refine bx_ 4 #[.int .i64 0, .int .i64 0, .int .i64 0, .slice none 0 0, .slice none 0 0, .slice none 0 0] 40 ?_; intro gb432 hg w33 hbox hb; have BK432 := Aside0.mk (hbox); have GW432 := gs_ hg; have NB429_432 := nl_ hg BK429; have NB432_429 := nr_ hg BK429; replace BK429 := kb_ BK429 hb; replace HB := Aside0.mk (below_step oB hb); clear hb hbox hg; have hnb34 := NB432_429.out; have hnc34 := NB429_432.out; obtain ⟨⟨_, _, _, _, _, _⟩, _, _, _, _, _, _⟩ := z6 BK432))
               generalize hW_ : ((((((w33.setCell ⟨gb432, 0, none⟩ (.int .i64 ((rd_T40 l0_0 x20_2).f0))).setCell ⟨gb432, 1, none⟩ (.int .i64 ((rd_T40 l0_0 x20_2).f1))).setCell ⟨gb432, 2, none⟩ (.int .i64 ((rd_T40 l0_0 x20_2).f2))).setCell ⟨gb432, 3, none⟩ (.slice A431_3 ((rd_T40 l0_0 x20_2).f3).length c431_3)).setCell ⟨gb432, 4, none⟩ (.slice A431_4 ((rd_T40 l0_0 x20_2).f4).length c431_4)).setCell ⟨gb432, 5, none⟩ (.slice A431_5 ((rd_T40 l0_0 x20_2).f5).length c431_5)) = w36
               replace BK429 := kw_ hW_ BK429
               replace BK432 := kv_ #[.int .i64 ((rd_T40 l0_0 x20_2).f0), .int .i64 ((rd_T40 l0_0 x20_2).f1), .int .i64 ((rd_T40 l0_0 x20_2).f2), .slice A431_3 ((rd_T40 l0_0 x20_2).f3).length c431_3, .slice A431_4 ((rd_T40 l0_0 x20_2).f4).length c431_4, .slice A431_5 ((rd_T40 l0_0 x20_2).f5).length c431_5] hW_ BK432
               replace HB := hw_ hW_ HB
               clear hW_
               replace BK429 := Aside0.mk (blk_drew BK429.out)
               replace BK432 := Aside0.mk (blk_drew BK432.out)
               replace HB := Aside0.mk (below_drew1 HB.out)
               have p434 : (0 ≤ ((ji23) : Int)) = True := oT
               have q434 : ((ji23) < (l0_0.length : Int)) = True := oT
               obtain ⟨ad434, A434_3, c434_3, A434_4, c434_4, A434_5, c434_5, e434, hx434_0, hx434_1, hx434_2, hx434_3, hx434_4, hx434_5, hl434_3, hi434_3, hl434_4, hi434_4, hl434_5, hi434_5⟩ := at_T40 HR0_0.out (ji23) oa oa
               have hw434_5 := hx434_5
               have hw434_4 := hx434_4
               have hw434_3 := hx434_3
               have hw434_2 := hx434_2
               have hw434_1 := hx434_1
               have hw434_0 := hx434_0
               obtain rfl : ad431 = ad434 := (by injection e434)
               replace hx434_0 := cB HB hx434_0
               replace hx434_1 := cB HB hx434_1
               replace hx434_2 := cB HB hx434_2
               replace hx434_3 := cB HB hx434_3
               replace hx434_4 := cB HB hx434_4
               replace hx434_5 := cB HB hx434_5
               have HR434_3 := Aside0.mk hi434_3
               have HC434_3 := Aside0.mk hl434_3
               clear hi434_3 hl434_3
               have HR434_4 := Aside0.mk hi434_4
               have HC434_4 := Aside0.mk hl434_4
               clear hi434_4 hl434_4
               have HR434_5 := Aside0.mk hi434_5
               have HC434_5 := Aside0.mk hl434_5
               clear hi434_5 hl434_5
               refine st_ 26 (fun w' => w'.cell? ⟨gb432, 0, none⟩ = some (.int .i64 ((rd_T40 l0_0 x20_2).f0)) ∧ w'.cell? ⟨gb432, 1, none⟩ = some (.int .i64 ((rd_T40 l0_0 x20_2).f1)) ∧ w'.cell? ⟨gb432, 2, none⟩ = some (.int .i64 ((rd_T40 l0_0 x20_2).f2)) ∧ w'.cell? ⟨gb432, 3, none⟩ = some (.slice A431_3 ((rd_T40 l0_0 x20_2).f3).length c431_3) ∧ w'.cell? ⟨gb432, 4, none⟩ = some (.slice A431_4 ((rd_T40 l0_0 x20_2).f4).length c431_4) ∧ w'.cell? ⟨gb432, 5, none⟩ = some (.slice A431_5 ((rd_T40 l0_0 x20_2).f5).length c431_5) ∧ w'.cell? ⟨gb429, 0, none⟩ = some (.slice (some ad431) l0_0.length c0_0) ∧ w'.cell? ⟨gb429, 1, none⟩ = some (.int .i64 a0_1) ∧ w'.cell? (ad431.add (((ji23)).toNat * 6)) = some (.int .i64 ((rd_T40 l0_0 (ji23)).f0)) ∧ w'.cell? ⟨(ad431.add (((ji23)).toNat * 6)).block, (ad431.add (((ji23)).toNat * 6)).off + 1, none⟩ = some (.int .i64 ((rd_T40 l0_0 (ji23)).f1)) ∧ w'.cell? ⟨(ad431.add (((ji23)).toNat * 6)).block, (ad431.add (((ji23)).toNat * 6)).off + 2, none⟩ = some (.int .i64 ((rd_T40 l0_0 (ji23)).f2)) ∧ w'.cell? ⟨(ad431.add (((ji23)).toNat * 6)).block, (ad431.add (((ji23)).toNat * 6)).off + 3, none⟩ = some (.slice A434_3 ((rd_T40 l0_0 (ji23)).f3).length c434_3) ∧ w'.cell? ⟨(ad431.add (((ji23)).toNat * 6)).block, (ad431.add (((ji23)).toNat * 6)).off + 4, none⟩ = some (.slice A434_4 ((rd_T40 l0_0 (ji23)).f4).length c434_4) ∧ w'.cell? ⟨(ad431.add (((ji23)).toNat * 6)).block, (ad431.add (((ji23)).toNat * 6)).off + 5, none⟩ = some (.slice A434_5 ((rd_T40 l0_0 (ji23)).f5).length c434_5)) impl_TabOk.tab6 impl_TabOk.bits6 oH (fun hHeld HT_ HW_ => ?_)
               generalize w36.drew = w37 at BK429 BK432 HB HR434_3 HR434_4 HR434_5 hx434_0 hx434_1 hx434_2 hx434_3 hx434_4 hx434_5 hHeld ⊢
               refine ta_ 0 25 HT_ HW_ hHeld ?_
               refine on_ 1 26 HT_ (fun K hK => ?_)
               refine gr_ 26 Try.func97 (impl_InodeOk.calls k2 ((rd_T40 l0_0 x20_2).f0) ((rd_T40 l0_0 x20_2).f1) ((rd_T40 l0_0 x20_2).f2) _ _ ((rd_T40 l0_0 x20_2).f3) _ _ ((rd_T40 l0_0 x20_2).f4) _ _ ((rd_T40 l0_0 x20_2).f5) true _ (kC HR431_3) HC431_3.out (kC HR431_4) HC431_4.out (kC HR431_5) HC431_5.out A13.out) ?_
               rintro e w38 ⟨rfl, hb⟩
               refine ⟨_, rfl, ?_⟩
               replace BK429 := kb_ BK429 hb
               replace BK432 := kb_ BK432 hb
               replace HB := Aside0.mk (below_step oB hb)
               refine hk_ hK 26 oH (fun hHeld => ?_)
               clear hK K
               refine pu_ 2 27 HT_ ?_
               refine pu_ 3 28 HT_ ?_
               refine pu_ 4 29 HT_ ?_
               refine pu_ 6 31 HT_ ?_
               refine ta_ 5 30 HT_ HW_ hHeld ?_
               refine ta_ 7 32 HT_ HW_ hHeld ?_
               refine pu_ 8 33 HT_ ?_
               refine pu_ 9 34 HT_ ?_
               refine pu_ 10 35 HT_ ?_
               refine pu_ 11 36 HT_ ?_
               refine pu_ 12 37 HT_ ?_
               refine pu_ 13 38 HT_ ?_
               refine pu_ 14 39 HT_ ?_
               refine pu_ 16 41 HT_ ?_
               refine pu_ 17 42 HT_ ?_
               refine pu_ 21 46 HT_ ?_
               refine ta_ 15 40 HT_ HW_ hHeld ?_
               refine pu_ 18 43 HT_ ?_
               refine pu_ 19 44 HT_ ?_
               refine ta_ 20 45 HT_ HW_ hHeld ?_
               refine ta_ 22 47 HT_ HW_ hHeld ?_
               refine pu_ 23 48 HT_ ?_
               refine pu_ 24 49 HT_ ?_
               refine pu_ 25 50 HT_ ?_
               refine dn_ HT_ ?_
               try go_wp2
               go_roundg k2
               case measure => have := HJ1.out; have := HK2.out; omega
               case rel => exact ⟨(wrap64 (x20_2 + 1)), oS, H', ⟨by have := HJ1.out; have := HK2.out; omega⟩, ⟨oF BK429⟩, ⟨oB⟩⟩
             ·cases H
            ·cases H
           ·have H' := Aside0.mk H
            clear H
            have p431 : (0 ≤ (x20_2 : Int)) = True := oT
            have q431 : (x20_2 < (l0_0.length : Int)) = True := oT
            obtain ⟨ad431, A431_3, c431_3, A431_4, c431_4, A431_5, c431_5, e431, hx431_0, hx431_1, hx431_2, hx431_3, hx431_4, hx431_5, hl431_3, hi431_3, hl431_4, hi431_4, hl431_5, hi431_5⟩ := at_T40 HR0_0.out x20_2 oa oa
            cases e431
            replace hx431_0 := cB HB hx431_0
            replace hx431_1 := cB HB hx431_1
            replace hx431_2 := cB HB hx431_2
            replace hx431_3 := cB HB hx431_3
            replace hx431_4 := cB HB hx431_4
            replace hx431_5 := cB HB hx431_5
            have HR431_3 := Aside0.mk hi431_3
            have HC431_3 := Aside0.mk hl431_3
            clear hi431_3 hl431_3
            have HR431_4 := Aside0.mk hi431_4
            have HC431_4 := Aside0.mk hl431_4
            clear hi431_4 hl431_4
            have HR431_5 := Aside0.mk hi431_5
            have HC431_5 := Aside0.mk hl431_5
            clear hi431_5 hl431_5
            try go_wp2_with (first | ((with_reducible refine gate_dst (N := 4) rfl ?_); refine bx_ 4 #[.int .i64 0, .int .i64 0, .int .i64 0, .slice none 0 0, .slice none 0 0, .slice none 0 0] 40 ?_; intro gb432 hg w39 hbox hb; have BK432 := Aside0.mk (hbox); have GW432 := gs_ hg; have NB429_432 := nl_ hg BK429; have NB432_429 := nr_ hg BK429; replace BK429 := kb_ BK429 hb; replace HB := Aside0.mk (below_step oB hb); clear hb hbox hg; have hnb40 := NB432_429.out; have hnc40 := NB429_432.out; obtain ⟨⟨_, _, _, _, _, _⟩, _, _, _, _, _, _⟩ := z6 BK432))
            generalize hW_ : ((((((w39.setCell ⟨gb432, 0, none⟩ (.int .i64 ((rd_T40 l0_0 x20_2).f0))).setCell ⟨gb432, 1, none⟩ (.int .i64 ((rd_T40 l0_0 x20_2).f1))).setCell ⟨gb432, 2, none⟩ (.int .i64 ((rd_T40 l0_0 x20_2).f2))).setCell ⟨gb432, 3, none⟩ (.slice A431_3 ((rd_T40 l0_0 x20_2).f3).length c431_3)).setCell ⟨gb432, 4, none⟩ (.slice A431_4 ((rd_T40 l0_0 x20_2).f4).length c431_4)).setCell ⟨gb432, 5, none⟩ (.slice A431_5 ((rd_T40 l0_0 x20_2).f5).length c431_5)) = w42
            replace BK429 := kw_ hW_ BK429
            replace BK432 := kv_ #[.int .i64 ((rd_T40 l0_0 x20_2).f0), .int .i64 ((rd_T40 l0_0 x20_2).f1), .int .i64 ((rd_T40 l0_0 x20_2).f2), .slice A431_3 ((rd_T40 l0_0 x20_2).f3).length c431_3, .slice A431_4 ((rd_T40 l0_0 x20_2).f4).length c431_4, .slice A431_5 ((rd_T40 l0_0 x20_2).f5).length c431_5] hW_ BK432
            replace HB := hw_ hW_ HB
            clear hW_
            replace BK429 := Aside0.mk (blk_drew BK429.out)
            replace BK432 := Aside0.mk (blk_drew BK432.out)
            replace HB := Aside0.mk (below_drew1 HB.out)
            refine st_ 26 (fun w' => w'.cell? ⟨gb432, 0, none⟩ = some (.int .i64 ((rd_T40 l0_0 x20_2).f0)) ∧ w'.cell? ⟨gb432, 1, none⟩ = some (.int .i64 ((rd_T40 l0_0 x20_2).f1)) ∧ w'.cell? ⟨gb432, 2, none⟩ = some (.int .i64 ((rd_T40 l0_0 x20_2).f2)) ∧ w'.cell? ⟨gb432, 3, none⟩ = some (.slice A431_3 ((rd_T40 l0_0 x20_2).f3).length c431_3) ∧ w'.cell? ⟨gb432, 4, none⟩ = some (.slice A431_4 ((rd_T40 l0_0 x20_2).f4).length c431_4) ∧ w'.cell? ⟨gb432, 5, none⟩ = some (.slice A431_5 ((rd_T40 l0_0 x20_2).f5).length c431_5) ∧ w'.cell? ⟨gb429, 0, none⟩ = some (.slice (some ad431) l0_0.length c0_0) ∧ w'.cell? ⟨gb429, 1, none⟩ = some (.int .i64 a0_1)) impl_TabOk.tab6 impl_TabOk.bits6 oH (fun hHeld HT_ HW_ => ?_)
            generalize w42.drew = w43 at BK429 BK432 HB hHeld ⊢
            refine ta_ 0 25 HT_ HW_ hHeld ?_
            refine on_ 1 26 HT_ (fun K hK => ?_)
            refine gr_ 26 Try.func97 (impl_InodeOk.calls k2 ((rd_T40 l0_0 x20_2).f0) ((rd_T40 l0_0 x20_2).f1) ((rd_T40 l0_0 x20_2).f2) _ _ ((rd_T40 l0_0 x20_2).f3) _ _ ((rd_T40 l0_0 x20_2).f4) _ _ ((rd_T40 l0_0 x20_2).f5) true _ (kC HR431_3) HC431_3.out (kC HR431_4) HC431_4.out (kC HR431_5) HC431_5.out A13.out) ?_
            rintro e w44 ⟨rfl, hb⟩
            refine ⟨_, rfl, ?_⟩
            replace BK429 := kb_ BK429 hb
            replace BK432 := kb_ BK432 hb
            replace HB := Aside0.mk (below_step oB hb)
            refine hk_ hK 26 oH (fun hHeld => ?_)
            clear hK K
            refine pu_ 2 27 HT_ ?_
            refine pu_ 3 28 HT_ ?_
            refine pu_ 4 29 HT_ ?_
            refine pu_ 6 31 HT_ ?_
            refine ta_ 5 30 HT_ HW_ hHeld ?_
            refine ta_ 7 32 HT_ HW_ hHeld ?_
            refine pu_ 8 33 HT_ ?_
            refine pu_ 9 34 HT_ ?_
            refine pu_ 10 35 HT_ ?_
            refine pu_ 11 36 HT_ ?_
            refine pu_ 12 37 HT_ ?_
            refine pu_ 13 38 HT_ ?_
            refine pn_ 14 39 HT_ ?_
            refine pn_ 15 40 HT_ ?_
            refine pn_ 16 41 HT_ ?_
            refine pn_ 17 42 HT_ ?_
            refine pn_ 18 43 HT_ ?_
            refine pn_ 19 44 HT_ ?_
            refine pn_ 20 45 HT_ ?_
            refine pn_ 21 46 HT_ ?_
            refine pn_ 22 47 HT_ ?_
            refine pn_ 23 48 HT_ ?_
            refine pu_ 24 49 HT_ ?_
            refine pu_ 25 50 HT_ ?_
            refine dn_ HT_ ?_
            try go_wp2
            go_roundg k2
            case measure => have := HJ1.out; have := HK2.out; omega
            case rel => exact ⟨(wrap64 (x20_2 + 1)), oS, H', ⟨by have := HJ1.out; have := HK2.out; omega⟩, ⟨oF BK429⟩, ⟨oB⟩⟩
         ·obtain rfl := Option.some.inj H
          have p431 : (0 ≤ (x20_2 : Int)) = True := oT
          have q431 : (x20_2 < (l0_0.length : Int)) = True := oT
          obtain ⟨ad431, A431_3, c431_3, A431_4, c431_4, A431_5, c431_5, e431, hx431_0, hx431_1, hx431_2, hx431_3, hx431_4, hx431_5, hl431_3, hi431_3, hl431_4, hi431_4, hl431_5, hi431_5⟩ := at_T40 HR0_0.out x20_2 oa oa
          cases e431
          replace hx431_0 := cB HB hx431_0
          replace hx431_1 := cB HB hx431_1
          replace hx431_2 := cB HB hx431_2
          replace hx431_3 := cB HB hx431_3
          replace hx431_4 := cB HB hx431_4
          replace hx431_5 := cB HB hx431_5
          have HR431_3 := Aside0.mk hi431_3
          have HC431_3 := Aside0.mk hl431_3
          clear hi431_3 hl431_3
          have HR431_4 := Aside0.mk hi431_4
          have HC431_4 := Aside0.mk hl431_4
          clear hi431_4 hl431_4
          have HR431_5 := Aside0.mk hi431_5
          have HC431_5 := Aside0.mk hl431_5
          clear hi431_5 hl431_5
          try go_wp2_with (first | ((with_reducible refine gate_dst (N := 4) rfl ?_); refine bx_ 4 #[.int .i64 0, .int .i64 0, .int .i64 0, .slice none 0 0, .slice none 0 0, .slice none 0 0] 40 ?_; intro gb432 hg w45 hbox hb; have BK432 := Aside0.mk (hbox); have GW432 := gs_ hg; have NB429_432 := nl_ hg BK429; have NB432_429 := nr_ hg BK429; replace BK429 := kb_ BK429 hb; replace HB := Aside0.mk (below_step oB hb); clear hb hbox hg; have hnb46 := NB432_429.out; have hnc46 := NB429_432.out; obtain ⟨⟨_, _, _, _, _, _⟩, _, _, _, _, _, _⟩ := z6 BK432))
          generalize hW_ : ((((((w45.setCell ⟨gb432, 0, none⟩ (.int .i64 ((rd_T40 l0_0 x20_2).f0))).setCell ⟨gb432, 1, none⟩ (.int .i64 ((rd_T40 l0_0 x20_2).f1))).setCell ⟨gb432, 2, none⟩ (.int .i64 ((rd_T40 l0_0 x20_2).f2))).setCell ⟨gb432, 3, none⟩ (.slice A431_3 ((rd_T40 l0_0 x20_2).f3).length c431_3)).setCell ⟨gb432, 4, none⟩ (.slice A431_4 ((rd_T40 l0_0 x20_2).f4).length c431_4)).setCell ⟨gb432, 5, none⟩ (.slice A431_5 ((rd_T40 l0_0 x20_2).f5).length c431_5)) = w48
          replace BK429 := kw_ hW_ BK429
          replace BK432 := kv_ #[.int .i64 ((rd_T40 l0_0 x20_2).f0), .int .i64 ((rd_T40 l0_0 x20_2).f1), .int .i64 ((rd_T40 l0_0 x20_2).f2), .slice A431_3 ((rd_T40 l0_0 x20_2).f3).length c431_3, .slice A431_4 ((rd_T40 l0_0 x20_2).f4).length c431_4, .slice A431_5 ((rd_T40 l0_0 x20_2).f5).length c431_5] hW_ BK432
          replace HB := hw_ hW_ HB
          clear hW_
          replace BK429 := Aside0.mk (blk_drew BK429.out)
          replace BK432 := Aside0.mk (blk_drew BK432.out)
          replace HB := Aside0.mk (below_drew1 HB.out)
          refine st_ 26 (fun w' => w'.cell? ⟨gb432, 0, none⟩ = some (.int .i64 ((rd_T40 l0_0 x20_2).f0)) ∧ w'.cell? ⟨gb432, 1, none⟩ = some (.int .i64 ((rd_T40 l0_0 x20_2).f1)) ∧ w'.cell? ⟨gb432, 2, none⟩ = some (.int .i64 ((rd_T40 l0_0 x20_2).f2)) ∧ w'.cell? ⟨gb432, 3, none⟩ = some (.slice A431_3 ((rd_T40 l0_0 x20_2).f3).length c431_3) ∧ w'.cell? ⟨gb432, 4, none⟩ = some (.slice A431_4 ((rd_T40 l0_0 x20_2).f4).length c431_4) ∧ w'.cell? ⟨gb432, 5, none⟩ = some (.slice A431_5 ((rd_T40 l0_0 x20_2).f5).length c431_5)) impl_TabOk.tab6 impl_TabOk.bits6 oH (fun hHeld HT_ HW_ => ?_)
          generalize w48.drew = w49 at BK429 BK432 HB hHeld ⊢
          refine ta_ 0 25 HT_ HW_ hHeld ?_
          refine on_ 1 26 HT_ (fun K hK => ?_)
          refine gr_ 26 Try.func97 (impl_InodeOk.calls k2 ((rd_T40 l0_0 x20_2).f0) ((rd_T40 l0_0 x20_2).f1) ((rd_T40 l0_0 x20_2).f2) _ _ ((rd_T40 l0_0 x20_2).f3) _ _ ((rd_T40 l0_0 x20_2).f4) _ _ ((rd_T40 l0_0 x20_2).f5) false _ (kC HR431_3) HC431_3.out (kC HR431_4) HC431_4.out (kC HR431_5) HC431_5.out A13.out) ?_
          rintro e w50 ⟨rfl, hb⟩
          refine ⟨_, rfl, ?_⟩
          replace BK429 := kb_ BK429 hb
          replace BK432 := kb_ BK432 hb
          replace HB := Aside0.mk (below_step oB hb)
          refine hk_ hK 26 oH (fun hHeld => ?_)
          clear hK K
          refine pu_ 2 27 HT_ ?_
          refine pu_ 3 28 HT_ ?_
          refine pn_ 4 29 HT_ ?_
          refine pn_ 5 30 HT_ ?_
          refine pn_ 6 31 HT_ ?_
          refine pn_ 7 32 HT_ ?_
          refine pn_ 8 33 HT_ ?_
          refine pu_ 9 34 HT_ ?_
          refine pu_ 10 35 HT_ ?_
          refine pn_ 11 36 HT_ ?_
          refine pn_ 12 37 HT_ ?_
          refine pn_ 13 38 HT_ ?_
          refine pn_ 14 39 HT_ ?_
          refine pn_ 15 40 HT_ ?_
          refine pn_ 16 41 HT_ ?_
          refine pn_ 17 42 HT_ ?_
          refine pn_ 18 43 HT_ ?_
          refine pn_ 19 44 HT_ ?_
          refine pn_ 20 45 HT_ ?_
          refine pn_ 21 46 HT_ ?_
          refine pn_ 22 47 HT_ ?_
          refine pn_ 23 48 HT_ ?_
          refine pn_ 24 49 HT_ ?_
          refine pu_ 25 50 HT_ ?_
          refine dn_ HT_ ?_
          try go_wp2
          go_ret
          exact ⟨oE, oB⟩
        ·cases H
       ·cases H
      ·replace H := bA H
       obtain ⟨⟨t435, t436, t437, t438, t441, t444, t447⟩, A51, H⟩ := H
       try dsimp only at H
       replace H := itB H
       rcases H with ⟨rfl, H⟩ | ⟨rfl, H⟩
       ·obtain rfl := Option.some.inj H
        obtain ⟨⟨_, _⟩, _, _⟩ := z2 BK429
        go_wp2_with (first | ((with_reducible refine gate_callee (f := 27) rfl ?_); refine gl_ 54 Try.func27 (impl_InodeAt.calls k2 _ _ l0_0 a0_1 1 t435 t436 t437 t438 t441 t444 true _ (kC HR0_0) HC0_0.out A51.out) ?_; rintro e w54 ⟨v439, v442, v445, rfl, ho0, ho1, ho2, hb⟩; refine ⟨_, rfl, ?_⟩; have HO440 := Aside0.mk (Kd.R_lower ho0 (below_size oB)); have HO443 := Aside0.mk (Kd.R_lower ho1 (below_size oB)); have HO446 := Aside0.mk (Kd.R_lower ho2 (below_size oB)); replace BK429 := kb_ BK429 hb; replace HB := Aside0.mk (below_step oB hb); (try clear ho1); (try clear ho2)) | ((with_reducible refine gate_dst (N := 5) rfl ?_); refine bx_ 5 #[.int .i64 0, .int .i64 0, .int .i64 0, .slice none 0 0, .slice none 0 0, .slice none 0 0] 40 ?_; intro gb448 hg w55 hbox hb; have BK448 := Aside0.mk (hbox); have GW448 := gs_ hg; have NB429_448 := nl_ hg BK429; have NB448_429 := nr_ hg BK429; replace HO440 := kr_ HO440 hb; replace HO443 := kr_ HO443 hb; replace HO446 := kr_ HO446 hb; replace BK429 := kb_ BK429 hb; replace HB := Aside0.mk (below_step oB hb); clear hb hbox hg; have hnb56 := NB448_429.out; have hnc56 := NB429_448.out; obtain ⟨⟨_, _, _, _, _, _⟩, _, _, _, _, _, _⟩ := z6 BK448; obtain ⟨Ao58, co58, eo58⟩ := Kd.R_slice HO440.out; subst eo58; obtain ⟨Ao59, co59, eo59⟩ := Kd.R_slice HO443.out; subst eo59; obtain ⟨Ao60, co60, eo60⟩ := Kd.R_slice HO446.out; subst eo60))
        go_ret
        exact ⟨oE, oB⟩
       ·obtain rfl := Option.some.inj H
        obtain ⟨⟨_, _⟩, _, _⟩ := z2 BK429
        go_wp2_with (first | ((with_reducible refine gate_callee (f := 27) rfl ?_); refine gl_ 54 Try.func27 (impl_InodeAt.calls k2 _ _ l0_0 a0_1 1 t435 t436 t437 t438 t441 t444 false _ (kC HR0_0) HC0_0.out A51.out) ?_; rintro e w62 ⟨v439, v442, v445, rfl, ho0, ho1, ho2, hb⟩; refine ⟨_, rfl, ?_⟩; have HO440 := Aside0.mk (Kd.R_lower ho0 (below_size oB)); have HO443 := Aside0.mk (Kd.R_lower ho1 (below_size oB)); have HO446 := Aside0.mk (Kd.R_lower ho2 (below_size oB)); replace BK429 := kb_ BK429 hb; replace HB := Aside0.mk (below_step oB hb); (try clear ho1); (try clear ho2)) | ((with_reducible refine gate_dst (N := 5) rfl ?_); refine bx_ 5 #[.int .i64 0, .int .i64 0, .int .i64 0, .slice none 0 0, .slice none 0 0, .slice none 0 0] 40 ?_; intro gb448 hg w63 hbox hb; have BK448 := Aside0.mk (hbox); have GW448 := gs_ hg; have NB429_448 := nl_ hg BK429; have NB448_429 := nr_ hg BK429; replace HO440 := kr_ HO440 hb; replace HO443 := kr_ HO443 hb; replace HO446 := kr_ HO446 hb; replace BK429 := kb_ BK429 hb; replace HB := Aside0.mk (below_step oB hb); clear hb hbox hg; have hnb64 := NB448_429.out; have hnc64 := NB429_448.out; obtain ⟨⟨_, _, _, _, _, _⟩, _, _, _, _, _, _⟩ := z6 BK448; obtain ⟨Ao66, co66, eo66⟩ := Kd.R_slice HO440.out; subst eo66; obtain ⟨Ao67, co67, eo67⟩ := Kd.R_slice HO443.out; subst eo67; obtain ⟨Ao68, co68, eo68⟩ := Kd.R_slice HO446.out; subst eo68))
        go_ret
        exact ⟨oE, oB⟩

/-! ### impl_LinksOf: function 63 -/
mutual
def impl_LinksOf.l0 : Nat → Int → Int → List (S40) → Int → Int → Option (Int)
 | 0, _, _, _, _, _ => none
 | k + 1, x1, x5, x11, x12, x13 => if x13 < x12 then (if 0 ≤ x13 then (if x13 < (x11.length : Int) then (if ((rd_T40 x11 x13).f1) = 2 then (impl_LinksOf.l1 k x1 x5 x11 x12 x13 ((rd_T40 x11 x13).f4) (((rd_T40 x11 x13).f4).length : Int) 0) else (impl_LinksOf.l0 k x1 x5 x11 x12 (wrap64 (x13 + 1)))) else (none)) else (none)) else (some x5)
def impl_LinksOf.l1 : Nat → Int → Int → List (S40) → Int → Int → List (S82) → Int → Int → Option (Int)
 | 0, _, _, _, _, _, _, _, _ => none
 | k + 1, x1, x5, x11, x12, x13, x21, x22, x23 => if x23 < x22 then (if 0 ≤ x23 then (if x23 < (x21.length : Int) then (if ((rd_T82 x21 x23).f1) = x1 then (impl_LinksOf.l1 k x1 (wrap64 (x5 + 1)) x11 x12 x13 x21 x22 (wrap64 (x23 + 1))) else (impl_LinksOf.l1 k x1 x5 x11 x12 x13 x21 x22 (wrap64 (x23 + 1)))) else (none)) else (none)) else (impl_LinksOf.l0 k x1 x5 x11 x12 (wrap64 (x13 + 1)))
end
def impl_LinksOf.f (k : Nat) (l0_0 : List (S40)) (a0_1 : Int) (a1 : Int) : Option (Int) := impl_LinksOf.l0 k a1 0 l0_0 (l0_0.length : Int) 0
set_option maxHeartbeats 8000000 in
set_option maxRecDepth 100000 in
theorem impl_LinksOf.calls (k : Nat) (A0_0 : Option Addr) (c0_0 : Nat) (l0_0 : List (S40)) (a0_1 : Int) (a1 : Int) (r : Int) (w : World) (hr0_0 : Kd.C k40 w A0_0 l0_0.length l0_0) (hc0_0 : l0_0.length ≤ c0_0) (h : impl_LinksOf.f k l0_0 a0_1 a1 = some r) :
  Calls Try.prog 63 #[.agg #[.slice A0_0 l0_0.length c0_0, .int .i64 a0_1], .int .i64 a1] w fun e w' => e = .returned (.int .i64 r) ∧ Below w.heap.size w w' := by
 have hu34 := Try.underlying34
 have hu40 := Try.underlying40
 have hu82 := Try.underlying82
 have HR0_0 := Aside0.mk hr0_0
 have HC0_0 := Aside0.mk hc0_0
 clear hr0_0 hc0_0
 have HB := Aside0.mk (Below.refl w.heap.size w)
 unfold impl_LinksOf.f at h
 have H := h
 clear h
 have H' := Aside0.mk H
 clear H
 go_enter Try.func63, Try.ntmps63
 go_wp2_with (first | ((with_reducible refine gate_dst (N := 2) rfl ?_); refine bx_ 2 #[.slice A0_0 l0_0.length c0_0, .int .i64 a0_1] 34 ?_; intro gb449 hg w3 hbox hb; have BK449 := Aside0.mk (hbox); have GW449 := gs_ hg; replace HB := Aside0.mk (below_step oB hb); clear hb hbox hg; obtain ⟨⟨_, _⟩, _, _⟩ := z2 BK449))
 go_loopg [5, 13] k (fun kq v5 v13 w' => ∃ (x5_1 : Int) (x13_1 : Int), v5 = .int .i64 x5_1 ∧ v13 = .int .i64 x13_1 ∧ Aside0 (impl_LinksOf.l0 kq a1 x5_1 l0_0 (l0_0.length : Int) x13_1 = some r) ∧ Aside0 (kq ≤ k) ∧ Aside0 (w'.heap[gb449]? = some (.cells #[(.slice A0_0 l0_0.length c0_0), .int .i64 a0_1] 34 (0, 0))) ∧ Aside0 (Below w.heap.size w w'))
 case atStart => exact ⟨(0), (0), oS, oS, H', ⟨Nat.le_refl _⟩, ⟨oF BK449⟩, ⟨oB⟩⟩
 case round =>
  clear H'
  obtain ⟨x5_1, x13_1, rfl, rfl, HA, HK1, BK449, HB⟩ := hrel
  cases gk with
  | zero => exact absurd HA.out (by simp [impl_LinksOf.l0])
  | succ k1 =>
   have H := HA.out
   clear HA
   simp only [impl_LinksOf.l0] at H
   replace H := itD H
   rcases H with ⟨c5b0, H⟩ | ⟨c5b0, H⟩
   ·replace H := itD H
    rcases H with ⟨c6b0, H⟩ | ⟨c6b0, H⟩
    ·replace H := itD H
     rcases H with ⟨c7b0, H⟩ | ⟨c7b0, H⟩
     ·by_cases c8 : ((rd_T40 l0_0 x13_1).f1) = 2
      ·rw [if_pos c8] at H
       have c8b0 : (((rd_T40 l0_0 x13_1).f1) == 2) = true := beq_iff_eq.mpr c8
       have c8b1 : (((rd_T40 l0_0 x13_1).f1) != 2) = false := bne_eq_false_iff_eq.mpr c8
       clear c8
       have H' := Aside0.mk H
       clear H
       have p450 : (0 ≤ (x13_1 : Int)) = True := oT
       have q450 : (x13_1 < (l0_0.length : Int)) = True := oT
       obtain ⟨ad450, A450_3, c450_3, A450_4, c450_4, A450_5, c450_5, e450, hx450_0, hx450_1, hx450_2, hx450_3, hx450_4, hx450_5, hl450_3, hi450_3, hl450_4, hi450_4, hl450_5, hi450_5⟩ := at_T40 HR0_0.out x13_1 oa oa
       cases e450
       replace hx450_0 := cB HB hx450_0
       replace hx450_1 := cB HB hx450_1
       replace hx450_2 := cB HB hx450_2
       replace hx450_3 := cB HB hx450_3
       replace hx450_4 := cB HB hx450_4
       replace hx450_5 := cB HB hx450_5
       have HR450_3 := Aside0.mk hi450_3
       have HC450_3 := Aside0.mk hl450_3
       clear hi450_3 hl450_3
       have HR450_4 := Aside0.mk hi450_4
       have HC450_4 := Aside0.mk hl450_4
       clear hi450_4 hl450_4
       have HR450_5 := Aside0.mk hi450_5
       have HC450_5 := Aside0.mk hl450_5
       clear hi450_5 hl450_5
       go_wp2_with (first | ((with_reducible refine gate_dst (N := 7) rfl ?_); refine bx_ 7 #[.int .i64 0, .int .i64 0, .int .i64 0, .slice none 0 0, .slice none 0 0, .slice none 0 0] 40 ?_; intro gb451 hg w9 hbox hb; have BK451 := Aside0.mk (hbox); have GW451 := gs_ hg; have NB449_451 := nl_ hg BK449; have NB451_449 := nr_ hg BK449; replace BK449 := kb_ BK449 hb; replace HB := Aside0.mk (below_step oB hb); clear hb hbox hg; have hnb10 := NB451_449.out; have hnc10 := NB449_451.out; obtain ⟨⟨_, _, _, _, _, _⟩, _, _, _, _, _, _⟩ := z6 BK451))
       go_loopg [5, 23] k1 (fun kq v5 v23 w' => ∃ (x5_2 : Int) (x23_2 : Int), v5 = .int .i64 x5_2 ∧ v23 = .int .i64 x23_2 ∧ Aside0 (impl_LinksOf.l1 kq a1 x5_2 l0_0 (l0_0.length : Int) x13_1 ((rd_T40 l0_0 x13_1).f4) (((rd_T40 l0_0 x13_1).f4).length : Int) x23_2 = some r) ∧ Aside0 (kq ≤ k1) ∧ Aside0 (w'.heap[gb449]? = some (.cells #[(.slice (some ad450) l0_0.length c0_0), .int .i64 a0_1] 34 (0, 0))) ∧ Aside0 (w'.heap[gb451]? = some (.cells #[.int .i64 ((rd_T40 l0_0 x13_1).f0), .int .i64 ((rd_T40 l0_0 x13_1).f1), .int .i64 ((rd_T40 l0_0 x13_1).f2), (.slice A450_3 ((rd_T40 l0_0 x13_1).f3).length c450_3), (.slice A450_4 ((rd_T40 l0_0 x13_1).f4).length c450_4), (.slice A450_5 ((rd_T40 l0_0 x13_1).f5).length c450_5)] 40 (0, 0))) ∧ Aside0 (Below w.heap.size w w'))
       case atStart => exact ⟨(x5_1), (0), oS, oS, H', ⟨Nat.le_refl _⟩, ⟨oF BK449⟩, ⟨oP BK451⟩, ⟨oB⟩⟩
       case round =>
        clear H'
        try clear c5b0
        try clear c6b0
        try clear c7b0
        try clear c8
        obtain ⟨x5_2, x23_2, rfl, rfl, HA, HK2, BK449, BK451, HB⟩ := hrel
        cases gk with
        | zero => exact absurd HA.out (by simp [impl_LinksOf.l1])
        | succ k2 =>
         have H := HA.out
         clear HA
         simp only [impl_LinksOf.l1] at H
         replace H := itD H
         rcases H with ⟨c12b0, H⟩ | ⟨c12b0, H⟩
         ·replace H := itD H
          rcases H with ⟨c13b0, H⟩ | ⟨c13b0, H⟩
          ·replace H := itD H
           rcases H with ⟨c14b0, H⟩ | ⟨c14b0, H⟩
           ·by_cases c15 : ((rd_T82 ((rd_T40 l0_0 x13_1).f4) x23_2).f1) = a1
            ·rw [if_pos c15] at H
             have c15b0 : (((rd_T82 ((rd_T40 l0_0 x13_1).f4) x23_2).f1) == a1) = true := beq_iff_eq.mpr c15
             have c15b1 : (((rd_T82 ((rd_T40 l0_0 x13_1).f4) x23_2).f1) != a1) = false := bne_eq_false_iff_eq.mpr c15
             clear c15
             have H' := Aside0.mk H
             clear H
             have p452 : (0 ≤ (x23_2 : Int)) = True := oT
             have q452 : (x23_2 < (((rd_T40 l0_0 x13_1).f4).length : Int)) = True := oT
             obtain ⟨ad452, e452, hx452_0, hx452_1⟩ := at_T82 HR450_4.out x23_2 oa oa
             cases e452
             replace hx452_0 := cB HB hx452_0
             replace hx452_1 := cB HB hx452_1
             go_wp2_with (first | ((with_reducible refine gate_dst (N := 9) rfl ?_); refine bx_ 9 #[.string (⟨#[]⟩ : ByteArray), .int .i64 0] 82 ?_; intro gb453 hg w16 hbox hb; have BK453 := Aside0.mk (hbox); have GW453 := gs_ hg; have NB449_453 := nl_ hg BK449; have NB453_449 := nr_ hg BK449; have NB451_453 := nl_ hg BK451; have NB453_451 := nr_ hg BK451; replace BK449 := kb_ BK449 hb; replace BK451 := kb_ BK451 hb; replace HB := Aside0.mk (below_step oB hb); clear hb hbox hg; have hnb17 := NB453_449.out; have hnc17 := NB449_453.out; have hnb18 := NB453_451.out; have hnc18 := NB451_453.out; obtain ⟨⟨_, _⟩, _, _⟩ := z2 BK453))
             go_roundg k2
             case measure => have := HK1.out; have := HK2.out; omega
             case rel => exact ⟨(wrap64 (x5_2 + 1)), (wrap64 (x23_2 + 1)), oS, oS, H', ⟨by have := HK1.out; have := HK2.out; omega⟩, ⟨oF BK449⟩, ⟨oF BK451⟩, ⟨oB⟩⟩
            ·rw [if_neg c15] at H
             have c15b0 : (((rd_T82 ((rd_T40 l0_0 x13_1).f4) x23_2).f1) == a1) = false := beq_eq_false_iff_ne.mpr c15
             have c15b1 : (((rd_T82 ((rd_T40 l0_0 x13_1).f4) x23_2).f1) != a1) = true := bne_iff_ne.mpr c15
             have H' := Aside0.mk H
             clear H
             have p452 : (0 ≤ (x23_2 : Int)) = True := oT
             have q452 : (x23_2 < (((rd_T40 l0_0 x13_1).f4).length : Int)) = True := oT
             obtain ⟨ad452, e452, hx452_0, hx452_1⟩ := at_T82 HR450_4.out x23_2 oa oa
             cases e452
             replace hx452_0 := cB HB hx452_0
             replace hx452_1 := cB HB hx452_1
             go_wp2_with (first | ((with_reducible refine gate_dst (N := 9) rfl ?_); refine bx_ 9 #[.string (⟨#[]⟩ : ByteArray), .int .i64 0] 82 ?_; intro gb453 hg w20 hbox hb; have BK453 := Aside0.mk (hbox); have GW453 := gs_ hg; have NB449_453 := nl_ hg BK449; have NB453_449 := nr_ hg BK449; have NB451_453 := nl_ hg BK451; have NB453_451 := nr_ hg BK451; replace BK449 := kb_ BK449 hb; replace BK451 := kb_ BK451 hb; replace HB := Aside0.mk (below_step oB hb); clear hb hbox hg; have hnb21 := NB453_449.out; have hnc21 := NB449_453.out; have hnb22 := NB453_451.out; have hnc22 := NB451_453.out; obtain ⟨⟨_, _⟩, _, _⟩ := z2 BK453))
             go_roundg k2
             case measure => have := HK1.out; have := HK2.out; omega
             case rel => exact ⟨(x5_2), (wrap64 (x23_2 + 1)), oS, oS, H', ⟨by have := HK1.out; have := HK2.out; omega⟩, ⟨oF BK449⟩, ⟨oF BK451⟩, ⟨oB⟩⟩
           ·cases H
          ·cases H
         ·have H' := Aside0.mk H
          clear H
          go_wp2
          go_roundg k2
          case measure => have := HK1.out; have := HK2.out; omega
          case rel => exact ⟨(x5_2), (wrap64 (x13_1 + 1)), oS, oS, H', ⟨by have := HK1.out; have := HK2.out; omega⟩, ⟨oF BK449⟩, ⟨oB⟩⟩
      ·rw [if_neg c8] at H
       have c8b0 : (((rd_T40 l0_0 x13_1).f1) == 2) = false := beq_eq_false_iff_ne.mpr c8
       have c8b1 : (((rd_T40 l0_0 x13_1).f1) != 2) = true := bne_iff_ne.mpr c8
       have H' := Aside0.mk H
       clear H
       have p450 : (0 ≤ (x13_1 : Int)) = True := oT
       have q450 : (x13_1 < (l0_0.length : Int)) = True := oT
       obtain ⟨ad450, A450_3, c450_3, A450_4, c450_4, A450_5, c450_5, e450, hx450_0, hx450_1, hx450_2, hx450_3, hx450_4, hx450_5, hl450_3, hi450_3, hl450_4, hi450_4, hl450_5, hi450_5⟩ := at_T40 HR0_0.out x13_1 oa oa
       cases e450
       replace hx450_0 := cB HB hx450_0
       replace hx450_1 := cB HB hx450_1
       replace hx450_2 := cB HB hx450_2
       replace hx450_3 := cB HB hx450_3
       replace hx450_4 := cB HB hx450_4
       replace hx450_5 := cB HB hx450_5
       have HR450_3 := Aside0.mk hi450_3
       have HC450_3 := Aside0.mk hl450_3
       clear hi450_3 hl450_3
       have HR450_4 := Aside0.mk hi450_4
       have HC450_4 := Aside0.mk hl450_4
       clear hi450_4 hl450_4
       have HR450_5 := Aside0.mk hi450_5
       have HC450_5 := Aside0.mk hl450_5
       clear hi450_5 hl450_5
       go_wp2_with (first | ((with_reducible refine gate_dst (N := 7) rfl ?_); refine bx_ 7 #[.int .i64 0, .int .i64 0, .int .i64 0, .slice none 0 0, .slice none 0 0, .slice none 0 0] 40 ?_; intro gb451 hg w24 hbox hb; have BK451 := Aside0.mk (hbox); have GW451 := gs_ hg; have NB449_451 := nl_ hg BK449; have NB451_449 := nr_ hg BK449; replace BK449 := kb_ BK449 hb; replace HB := Aside0.mk (below_step oB hb); clear hb hbox hg; have hnb25 := NB451_449.out; have hnc25 := NB449_451.out; obtain ⟨⟨_, _, _, _, _, _⟩, _, _, _, _, _, _⟩ := z6 BK451))
       go_roundg k1
       case measure => have := HK1.out; omega
       case rel => exact ⟨(x5_1), (wrap64 (x13_1 + 1)), oS, oS, H', ⟨by have := HK1.out; omega⟩, ⟨oF BK449⟩, ⟨oB⟩⟩
     ·cases H
    ·cases H
   ·obtain rfl := Option.some.inj H
    go_wp2
    go_ret
    exact ⟨oE, oB⟩

end Go.Proofs.Ytmndnegpclaidaa.P
