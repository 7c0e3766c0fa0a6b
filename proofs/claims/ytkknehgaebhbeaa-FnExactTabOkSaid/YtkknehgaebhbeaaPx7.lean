-- By this session's own program (wip/myprint.py) out of the translation; Lean checks it.
import Derived.Test.YtkknehgaebhbeaaPx0
import Derived.Test.YtkknehgaebhbeaaPx3
import Derived.Test.YtkknehgaebhbeaaPx4
import Derived.Test.YtkknehgaebhbeaaPx5
import Derived.Test.YtkknehgaebhbeaaPx6
namespace Go.Proofs.Ytkknehgaebhbeaa.P
open Go.RowKit Go.Proofs.YtkknehgaebhbeaaW.PrintWords Go.Proofs.YtkknehgaebhbeaaW.PrintLast Go.Proofs.YtkknehgaebhbeaaW.PrintMore
attribute [local go_sem] max2_int min2_int max_two min_two max_three min_three max_four min_four   -- for this text's walks alone
set_option linter.unusedVariables false
set_option linter.unusedSimpArgs false

/-! ### impl_TabOk: function 44 -/
mutual
def impl_TabOk.j0 : Nat → Bool → List (S45) → Int → Option (Bool)
 | 0, _, _, _ => none
 | k + 1, x16, x287000, x287001 => if x16 = true then (some false) else (impl_TabOk.l0 k x287000 (x287000.length : Int) 0 x287000 x287001)
def impl_TabOk.l0 : Nat → List (S45) → Int → Int → List (S45) → Int → Option (Bool)
 | 0, _, _, _, _, _ => none
 | k + 1, x18, x19, x20, x287000, x287001 => if x20 < x19 then (if 0 ≤ x20 then (if x20 < (x18.length : Int) then ((impl_InodeOk.f k ((rd_T45 x18 x20).f0) ((rd_T45 x18 x20).f1) ((rd_T45 x18 x20).f2) ((rd_T45 x18 x20).f3) ((rd_T45 x18 x20).f4) ((rd_T45 x18 x20).f5)).bind fun t290 => (if t290 = true then (if ((rd_T45 x18 x20).f0) ≥ x287001 then (some false) else (if x20 > 0 then (if 0 ≤ (wrap64 (x20 - 1)) then (if (wrap64 (x20 - 1)) < (x287000.length : Int) then (if ((rd_T45 x287000 (wrap64 (x20 - 1))).f0) ≥ ((rd_T45 x18 x20).f0) then (some false) else (impl_TabOk.l0 k x18 x19 (wrap64 (x20 + 1)) x287000 x287001)) else (none)) else (none)) else (impl_TabOk.l0 k x18 x19 (wrap64 (x20 + 1)) x287000 x287001))) else (some false))) else (none)) else (none)) else ((impl_InodeAt.f k x287000 x287001 1).bind fun bt292 => (if bt292.2.2.2.2.2.2 = true then (some (bt292.2.1 == 2)) else (some false)))
end
def impl_TabOk.f (k : Nat) (l0_0 : List (S45)) (a0_1 : Int) : Option (Bool) := if (l0_0.length : Int) > 30 then (impl_TabOk.j0 k true l0_0 a0_1) else ((impl_from.f a0_1 2 1000).bind fun t287 => (impl_TabOk.j0 k (!t287) l0_0 a0_1))
def impl_TabOk.T6 : Bool × List (List Nat × List Nat) := (true, [([], []), ([0], [0]), ([1], [1]), ([2, 1], [2]), ([3], [3]), ([4, 3], [3, 4]), ([3], [3]), ([6, 3], [3, 6]), ([5, 7, 3], [3, 5, 7]), ([3, 8], [3, 8]), ([9, 3], [9]), ([10], [10]), ([11, 10], [10, 11]), ([12, 10, 10], [10, 12]), ([13], [13]), ([14, 13], [13, 14]), ([13], [13]), ([16, 13], [13, 16]), ([15, 17, 13], [13, 15, 17]), ([18, 13], [13, 18]), ([19, 13], [13, 19]), ([13], [13]), ([21, 13], [13, 21]), ([20, 22, 13], [13, 20, 22]), ([13, 23, 10], [10, 13, 23]), ([10, 24], [10, 24])])
def impl_TabOk.B6 : List Nat := [0, 1, 3, 7, 15, 31, 15, 79, 255, 511, 1023, 2047, 4095, 8191, 16383, 32767, 16383, 81919, 262143, 524287, 1048575, 16383, 2113535, 8388607, 16777215, 33554431]
theorem impl_TabOk.tab6 : rtab .any (opsOf Try.f44 6) = impl_TabOk.T6 := by kernel_rfl
theorem impl_TabOk.bits6 : waitsOk impl_TabOk.T6.2 impl_TabOk.B6 = true := by kernel_rfl
set_option maxHeartbeats 8000000 in
set_option maxRecDepth 100000 in
theorem impl_TabOk.calls (k : Nat) (A0_0 : Option Addr) (c0_0 : Nat) (l0_0 : List (S45)) (a0_1 : Int) (r : Bool) (w : World) (hr0_0 : Kd.C k45 w A0_0 l0_0.length l0_0) (hc0_0 : l0_0.length ≤ c0_0) (h : impl_TabOk.f k l0_0 a0_1 = some r) :
  Calls Try.prog 44 #[.agg #[.slice A0_0 l0_0.length c0_0, .int .i64 a0_1]] w fun e w' => e = .returned (.bool r) ∧ Below w.heap.size w w' := by
 have hu30 := Try.underlying30
 have hu45 := Try.underlying45
 have HR0_0 := Aside0.mk hr0_0
 have HC0_0 := Aside0.mk hc0_0
 clear hr0_0 hc0_0
 have HB := Aside0.mk (Below.refl w.heap.size w)
 unfold impl_TabOk.f at h
 have H := h
 clear h
 have HC2 := Aside0.mk H
 clear H
 go_enter Try.func44, Try.ntmps44
 go_upto_region 1 with (first | ((with_reducible refine gate_dst (N := 1) rfl ?_); refine bx_ 1 #[.slice A0_0 l0_0.length c0_0, .int .i64 a0_1] 30 ?_; intro gb286 hg w3 hbox hb; have BK286 := Aside0.mk (hbox); have GW286 := gs_ hg; have GE286 := gs_ hg; replace HB := Aside0.mk (below_step oB hb); clear hb hbox hg))
 (try simp only [Act.put, List.setIfInBounds_toArray, List.set_cons_zero, List.set_cons_succ])
 go_cut [16] (fun v16 wc => ∃ (kq : Nat) (x16_1 : Bool), v16 = .bool x16_1 ∧ Aside0 (impl_TabOk.j0 kq x16_1 l0_0 a0_1 = some r) ∧ Aside0 (kq ≤ k) ∧ Aside0 (wc.heap[gb286]? = some (.cells #[(.slice A0_0 l0_0.length c0_0), .int .i64 a0_1] 30 (0, 0))) ∧ Aside0 (Below w.heap.size w wc))
 case first =>
  have H := HC2.out
  clear HC2
  by_cases c4 : (l0_0.length : Int) > 30
  ·rw [if_pos c4] at H
   have c4b0 : decide (30 < (l0_0.length : Int)) = true := decide_eq_true c4
   have c4b1 : decide (30 < l0_0.length) = true := decide_eq_true (by omega)
   clear c4
   (first | rw [c4b0] | rw [c4b2] | (simp only [i64_w, i32_w]; rw [c4b0]) | skip)
   have H' := Aside0.mk H
   clear H
   obtain ⟨⟨_, _⟩, _, _⟩ := z2 BK286
   go_wp2
   go_meet
   case rel => exact ⟨_, (true), oS, H', ⟨by first | omega | exact Nat.le_refl _⟩, ⟨oF BK286⟩, ⟨oB⟩⟩
  ·rw [if_neg c4] at H
   have c4b0 : decide (30 < (l0_0.length : Int)) = false := decide_eq_false c4
   have c4b1 : decide (30 < l0_0.length) = false := decide_eq_false (by omega)
   clear c4
   (first | rw [c4b0] | rw [c4b2] | (simp only [i64_w, i32_w]; rw [c4b0]) | skip)
   replace H := bA H
   obtain ⟨t287, A6, H⟩ := H
   try dsimp only at H
   have H' := Aside0.mk H
   clear H
   obtain ⟨⟨_, _⟩, _, _⟩ := z2 BK286
   go_wp2_with (first | (go_at_call 90; (with_reducible refine (impl_from.calls a0_1 2 1000 t287 _ A6.out).mono ?_); rintro e w' ⟨rfl, ⟨nd, rfl⟩⟩))
   go_meet
   case rel => exact ⟨_, (!t287), oS, H', ⟨by first | omega | exact Nat.le_refl _⟩, ⟨oF BK286⟩, ⟨oB⟩⟩
 case rest =>
  clear HC2
  obtain ⟨kq, x16_1, rfl, HA, HJ1, BK286, HB⟩ := hcut
  cases kq with
  | zero => exact absurd HA.out (by simp [impl_TabOk.j0])
  | succ kj1 =>
   have H := HA.out
   clear HA
   simp only [impl_TabOk.j0] at H
   replace H := itB H
   rcases H with ⟨rfl, H⟩ | ⟨rfl, H⟩
   ·obtain rfl := Option.some.inj H
    go_wp2
    go_ret
    exact ⟨oE, oB⟩
   ·have H' := Aside0.mk H
    clear H
    obtain ⟨⟨_, _⟩, _, _⟩ := z2 BK286
    go_wp2
    go_loopg [20] kj1 (fun kq v20 w' => ∃ (x20_2 : Int), v20 = .int .i64 x20_2 ∧ Aside0 (impl_TabOk.l0 kq l0_0 (l0_0.length : Int) x20_2 l0_0 a0_1 = some r) ∧ Aside0 (kq ≤ kj1) ∧ Aside0 (w'.heap[gb286]? = some (.cells #[(.slice A0_0 l0_0.length c0_0), .int .i64 a0_1] 30 (0, 0))) ∧ Aside0 (Below w.heap.size w w'))
    case atStart => exact ⟨(0), oS, H', ⟨Nat.le_refl _⟩, ⟨oF BK286⟩, ⟨oB⟩⟩
    case round =>
     clear H'
     obtain ⟨x20_2, rfl, HA, HK2, BK286, HB⟩ := hrel
     cases gk with
     | zero => exact absurd HA.out (by simp [impl_TabOk.l0])
     | succ k2 =>
      have H := HA.out
      clear HA
      simp only [impl_TabOk.l0] at H
      replace H := itD H
      rcases H with ⟨c10b0, H⟩ | ⟨c10b0, H⟩
      ·replace H := itD H
       rcases H with ⟨c11b0, H⟩ | ⟨c11b0, H⟩
       ·replace H := itD H
        rcases H with ⟨c12b0, H⟩ | ⟨c12b0, H⟩
        ·replace H := bA H
         obtain ⟨t290, A13, H⟩ := H
         try dsimp only at H
         replace H := itB H
         rcases H with ⟨rfl, H⟩ | ⟨rfl, H⟩
         ·replace H := itH H
          rcases H with ⟨c15b0, H⟩ | ⟨c15b0, H⟩
          ·obtain rfl := Option.some.inj H
           have p288 : (0 ≤ (x20_2 : Int)) = True := oT
           have q288 : (x20_2 < (l0_0.length : Int)) = True := oT
           obtain ⟨ad288, A288_3, c288_3, A288_4, c288_4, A288_5, c288_5, e288, hx288_0, hx288_1, hx288_2, hx288_3, hx288_4, hx288_5, hl288_3, hi288_3, hl288_4, hi288_4, hl288_5, hi288_5⟩ := at_T45 HR0_0.out x20_2 oa oa
           cases e288
           replace hx288_0 := cB HB hx288_0
           replace hx288_1 := cB HB hx288_1
           replace hx288_2 := cB HB hx288_2
           replace hx288_3 := cB HB hx288_3
           replace hx288_4 := cB HB hx288_4
           replace hx288_5 := cB HB hx288_5
           have HR288_3 := Aside0.mk hi288_3
           have HC288_3 := Aside0.mk hl288_3
           clear hi288_3 hl288_3
           have HR288_4 := Aside0.mk hi288_4
           have HC288_4 := Aside0.mk hl288_4
           clear hi288_4 hl288_4
           have HR288_5 := Aside0.mk hi288_5
           have HC288_5 := Aside0.mk hl288_5
           clear hi288_5 hl288_5
           try go_wp2_with (first | ((with_reducible refine gate_dst (N := 4) rfl ?_); refine bx_ 4 #[.int .i64 0, .int .i64 0, .int .i64 0, .slice none 0 0, .slice none 0 0, .slice none 0 0] 45 ?_; intro gb289 hg w16 hbox hb; have BK289 := Aside0.mk (hbox); have GW289 := gs_ hg; have GE289 := gs_ hg; have NB286_289 := nl_ hg BK286; have NB289_286 := nr_ hg BK286; replace BK286 := kb_ BK286 hb; replace HB := Aside0.mk (below_step oB hb); clear hb hbox hg; have hnb17 := NB289_286.out; have hnc17 := NB286_289.out; obtain ⟨⟨_, _, _, _, _, _⟩, _, _, _, _, _, _⟩ := z6 BK289))
           have n0_ : Aside0 (((((((w16.setCell ⟨gb289, 0, none⟩ (.int .i64 ((rd_T45 l0_0 x20_2).f0))).setCell ⟨gb289, 1, none⟩ (.int .i64 ((rd_T45 l0_0 x20_2).f1))).setCell ⟨gb289, 2, none⟩ (.int .i64 ((rd_T45 l0_0 x20_2).f2))).setCell ⟨gb289, 3, none⟩ (.slice A288_3 ((rd_T45 l0_0 x20_2).f3).length c288_3)).setCell ⟨gb289, 4, none⟩ (.slice A288_4 ((rd_T45 l0_0 x20_2).f4).length c288_4)).setCell ⟨gb289, 5, none⟩ (.slice A288_5 ((rd_T45 l0_0 x20_2).f5).length c288_5)).heap[gb286]? = some (.cells #[.slice (some ad288) l0_0.length c0_0, .int .i64 a0_1] 30 (0, 0))) := ⟨by (with_reducible repeat (first | refine blk_drewN ?_ _ | refine blk_drew ?_ | refine blk_alloc ?_ _)); refine blk_far ?_ NB286_289.out _; (with_reducible repeat (first | refine blk_drewN ?_ _ | refine blk_drew ?_ | refine blk_alloc ?_ _)); refine blk_far ?_ NB286_289.out _; (with_reducible repeat (first | refine blk_drewN ?_ _ | refine blk_drew ?_ | refine blk_alloc ?_ _)); refine blk_far ?_ NB286_289.out _; (with_reducible repeat (first | refine blk_drewN ?_ _ | refine blk_drew ?_ | refine blk_alloc ?_ _)); refine blk_far ?_ NB286_289.out _; (with_reducible repeat (first | refine blk_drewN ?_ _ | refine blk_drew ?_ | refine blk_alloc ?_ _)); refine blk_far ?_ NB286_289.out _; (with_reducible repeat (first | refine blk_drewN ?_ _ | refine blk_drew ?_ | refine blk_alloc ?_ _)); refine blk_far ?_ NB286_289.out _; (with_reducible repeat (first | refine blk_drewN ?_ _ | refine blk_drew ?_ | refine blk_alloc ?_ _)); exact BK286.out⟩
           have n1_ : Aside0 (((((((w16.setCell ⟨gb289, 0, none⟩ (.int .i64 ((rd_T45 l0_0 x20_2).f0))).setCell ⟨gb289, 1, none⟩ (.int .i64 ((rd_T45 l0_0 x20_2).f1))).setCell ⟨gb289, 2, none⟩ (.int .i64 ((rd_T45 l0_0 x20_2).f2))).setCell ⟨gb289, 3, none⟩ (.slice A288_3 ((rd_T45 l0_0 x20_2).f3).length c288_3)).setCell ⟨gb289, 4, none⟩ (.slice A288_4 ((rd_T45 l0_0 x20_2).f4).length c288_4)).setCell ⟨gb289, 5, none⟩ (.slice A288_5 ((rd_T45 l0_0 x20_2).f5).length c288_5)).heap[gb289]? = some (.cells #[.int .i64 ((rd_T45 l0_0 x20_2).f0), .int .i64 ((rd_T45 l0_0 x20_2).f1), .int .i64 ((rd_T45 l0_0 x20_2).f2), .slice A288_3 ((rd_T45 l0_0 x20_2).f3).length c288_3, .slice A288_4 ((rd_T45 l0_0 x20_2).f4).length c288_4, .slice A288_5 ((rd_T45 l0_0 x20_2).f5).length c288_5] 45 (0, 0))) := ⟨by (with_reducible repeat (first | refine blk_drewN ?_ _ | refine blk_drew ?_ | refine blk_alloc ?_ _)); refine blk_put (cs := #[.int .i64 ((rd_T45 l0_0 x20_2).f0), .int .i64 ((rd_T45 l0_0 x20_2).f1), .int .i64 ((rd_T45 l0_0 x20_2).f2), .slice A288_3 ((rd_T45 l0_0 x20_2).f3).length c288_3, .slice A288_4 ((rd_T45 l0_0 x20_2).f4).length c288_4, .slice none 0 0]) ?_ 5 _ rfl; (with_reducible repeat (first | refine blk_drewN ?_ _ | refine blk_drew ?_ | refine blk_alloc ?_ _)); refine blk_put (cs := #[.int .i64 ((rd_T45 l0_0 x20_2).f0), .int .i64 ((rd_T45 l0_0 x20_2).f1), .int .i64 ((rd_T45 l0_0 x20_2).f2), .slice A288_3 ((rd_T45 l0_0 x20_2).f3).length c288_3, .slice none 0 0, .slice none 0 0]) ?_ 4 _ rfl; (with_reducible repeat (first | refine blk_drewN ?_ _ | refine blk_drew ?_ | refine blk_alloc ?_ _)); refine blk_put (cs := #[.int .i64 ((rd_T45 l0_0 x20_2).f0), .int .i64 ((rd_T45 l0_0 x20_2).f1), .int .i64 ((rd_T45 l0_0 x20_2).f2), .slice none 0 0, .slice none 0 0, .slice none 0 0]) ?_ 3 _ rfl; (with_reducible repeat (first | refine blk_drewN ?_ _ | refine blk_drew ?_ | refine blk_alloc ?_ _)); refine blk_put (cs := #[.int .i64 ((rd_T45 l0_0 x20_2).f0), .int .i64 ((rd_T45 l0_0 x20_2).f1), .int .i64 0, .slice none 0 0, .slice none 0 0, .slice none 0 0]) ?_ 2 _ rfl; (with_reducible repeat (first | refine blk_drewN ?_ _ | refine blk_drew ?_ | refine blk_alloc ?_ _)); refine blk_put (cs := #[.int .i64 ((rd_T45 l0_0 x20_2).f0), .int .i64 0, .int .i64 0, .slice none 0 0, .slice none 0 0, .slice none 0 0]) ?_ 1 _ rfl; (with_reducible repeat (first | refine blk_drewN ?_ _ | refine blk_drew ?_ | refine blk_alloc ?_ _)); refine blk_put (cs := #[.int .i64 0, .int .i64 0, .int .i64 0, .slice none 0 0, .slice none 0 0, .slice none 0 0]) ?_ 0 _ rfl; (with_reducible repeat (first | refine blk_drewN ?_ _ | refine blk_drew ?_ | refine blk_alloc ?_ _)); exact BK289.out⟩
           have n2_ : Aside0 (Below w.heap.size w ((((((w16.setCell ⟨gb289, 0, none⟩ (.int .i64 ((rd_T45 l0_0 x20_2).f0))).setCell ⟨gb289, 1, none⟩ (.int .i64 ((rd_T45 l0_0 x20_2).f1))).setCell ⟨gb289, 2, none⟩ (.int .i64 ((rd_T45 l0_0 x20_2).f2))).setCell ⟨gb289, 3, none⟩ (.slice A288_3 ((rd_T45 l0_0 x20_2).f3).length c288_3)).setCell ⟨gb289, 4, none⟩ (.slice A288_4 ((rd_T45 l0_0 x20_2).f4).length c288_4)).setCell ⟨gb289, 5, none⟩ (.slice A288_5 ((rd_T45 l0_0 x20_2).f5).length c288_5))) := ⟨oB⟩
           (try clear BK286)
           (try clear BK289)
           (try clear HB)
           generalize ((((((w16.setCell ⟨gb289, 0, none⟩ (.int .i64 ((rd_T45 l0_0 x20_2).f0))).setCell ⟨gb289, 1, none⟩ (.int .i64 ((rd_T45 l0_0 x20_2).f1))).setCell ⟨gb289, 2, none⟩ (.int .i64 ((rd_T45 l0_0 x20_2).f2))).setCell ⟨gb289, 3, none⟩ (.slice A288_3 ((rd_T45 l0_0 x20_2).f3).length c288_3)).setCell ⟨gb289, 4, none⟩ (.slice A288_4 ((rd_T45 l0_0 x20_2).f4).length c288_4)).setCell ⟨gb289, 5, none⟩ (.slice A288_5 ((rd_T45 l0_0 x20_2).f5).length c288_5)) = w19 at n0_ n1_ n2_ ⊢
           have BK286 := n0_
           have BK289 := n1_
           have HB := n2_
           clear n0_ n1_ n2_
           replace BK286 := Aside0.mk (blk_drew BK286.out)
           replace BK289 := Aside0.mk (blk_drew BK289.out)
           replace HB := Aside0.mk (below_drew1 HB.out)
           refine start_ (n := 26) (S := fun w' => w'.cell? ⟨gb289, 0, none⟩ = some (.int .i64 ((rd_T45 l0_0 x20_2).f0)) ∧ w'.cell? ⟨gb289, 1, none⟩ = some (.int .i64 ((rd_T45 l0_0 x20_2).f1)) ∧ w'.cell? ⟨gb289, 2, none⟩ = some (.int .i64 ((rd_T45 l0_0 x20_2).f2)) ∧ w'.cell? ⟨gb289, 3, none⟩ = some (.slice A288_3 ((rd_T45 l0_0 x20_2).f3).length c288_3) ∧ w'.cell? ⟨gb289, 4, none⟩ = some (.slice A288_4 ((rd_T45 l0_0 x20_2).f4).length c288_4) ∧ w'.cell? ⟨gb289, 5, none⟩ = some (.slice A288_5 ((rd_T45 l0_0 x20_2).f5).length c288_5) ∧ w'.cell? ⟨gb286, 0, none⟩ = some (.slice (some ad288) l0_0.length c0_0) ∧ w'.cell? ⟨gb286, 1, none⟩ = some (.int .i64 a0_1)) (ds := []) #[false, false, false, false, false, false, false, false, false, false, false, false, false, false, false, false, false, false, false, false, false, false, false, false, false, false] (by kernel_rfl) rfl rfl oH (fun hHeld => ?_); refine with_tabW impl_TabOk.tab6 impl_TabOk.bits6 (fun HT_ HW_ => ?_)
           generalize w19.drew = w20 at BK286 BK289 HB hHeld ⊢
           refine take_ (i := 0) (N := some 25) (v := ?_) (a' := ?_) #[true, false, false, false, false, false, false, false, false, false, false, false, false, false, false, false, false, false, false, false, false, false, false, false, false, false] rfl rfl (take_ofW HT_.out HW_.out (by kernel_rfl)) (fun _ _ _ h => h) (Or.inl ⟨by rfl, ?_⟩) hHeld ?_ ?_
           rotate_left
           ·rintro w' ⟨s0, s1, s2, s3, s4, s5, s6, s7⟩
            go_simp
            with_reducible rfl
           rotate_left
           ·simp only [Act.put, List.setIfInBounds_toArray, List.set_cons_zero, List.set_cons_succ, i64_w, i32_w]
            rfl
           refine one_ (i := 1) (N := some 26) #[true, true, false, false, false, false, false, false, false, false, false, false, false, false, false, false, false, false, false, false, false, false, false, false, false, false] rfl rfl (one_of HT_.out (by kernel_rfl)) (by decide) (fun K hK => ?_)
           refine gr_ 26 Try.func38 (impl_InodeOk.calls k2 ((rd_T45 l0_0 x20_2).f0) ((rd_T45 l0_0 x20_2).f1) ((rd_T45 l0_0 x20_2).f2) _ _ ((rd_T45 l0_0 x20_2).f3) _ _ ((rd_T45 l0_0 x20_2).f4) _ _ ((rd_T45 l0_0 x20_2).f5) true _ (kC HR288_3) HC288_3.out (kC HR288_4) HC288_4.out (kC HR288_5) HC288_5.out A13.out) ?_
           rintro e w21 ⟨rfl, hb⟩
           refine ⟨_, rfl, ?_⟩
           replace BK286 := kb_ BK286 hb
           replace BK289 := kb_ BK289 hb
           replace HB := Aside0.mk (below_step oB hb)
           refine hK.out _ _ oH (fun hHeld => ?_)
           clear hK K
           refine norm_ (a' := ?_) ?_ ?_
           rotate_left
           ·show Act.put _ (some 26) _ = _
            simp only [Act.put, List.setIfInBounds_toArray, List.set_cons_zero, List.set_cons_succ, i64_w, i32_w]
            rfl
           refine pure_ (i := 2) (N := some 27) (v := ?_) (a' := ?_) #[true, true, true, false, false, false, false, false, false, false, false, false, false, false, false, false, false, false, false, false, false, false, false, false, false, false] rfl rfl (any_of HT_.out (by kernel_rfl)) (fun _ _ _ h => h) (Or.inl ⟨by rfl, ?_⟩) ?_ ?_
           rotate_left
           ·intro w'
            go_simp
            with_reducible rfl
           rotate_left
           ·simp only [Act.put, List.setIfInBounds_toArray, List.set_cons_zero, List.set_cons_succ, i64_w, i32_w]
            rfl
           refine pure_ (i := 3) (N := some 28) (v := ?_) (a' := ?_) #[true, true, true, true, false, false, false, false, false, false, false, false, false, false, false, false, false, false, false, false, false, false, false, false, false, false] rfl rfl (any_of HT_.out (by kernel_rfl)) (fun _ _ _ h => h) (Or.inl ⟨by rfl, ?_⟩) ?_ ?_
           rotate_left
           ·intro w'
            go_simp
            with_reducible rfl
           rotate_left
           ·simp only [Act.put, List.setIfInBounds_toArray, List.set_cons_zero, List.set_cons_succ, i64_w, i32_w]
            rfl
           refine pure_ (i := 4) (N := some 29) (v := ?_) (a' := ?_) #[true, true, true, true, true, false, false, false, false, false, false, false, false, false, false, false, false, false, false, false, false, false, false, false, false, false] rfl rfl (any_of HT_.out (by kernel_rfl)) (fun _ _ _ h => h) (Or.inl ⟨by rfl, ?_⟩) ?_ ?_
           rotate_left
           ·intro w'
            go_simp
            with_reducible rfl
           rotate_left
           ·simp only [Act.put, List.setIfInBounds_toArray, List.set_cons_zero, List.set_cons_succ, i64_w, i32_w]
            rfl
           refine pure_ (i := 6) (N := some 31) (v := ?_) (a' := ?_) #[true, true, true, true, true, false, true, false, false, false, false, false, false, false, false, false, false, false, false, false, false, false, false, false, false, false] rfl rfl (any_of HT_.out (by kernel_rfl)) (fun _ _ _ h => h) (Or.inl ⟨by rfl, ?_⟩) ?_ ?_
           rotate_left
           ·intro w'
            go_simp
            with_reducible rfl
           rotate_left
           ·simp only [Act.put, List.setIfInBounds_toArray, List.set_cons_zero, List.set_cons_succ, i64_w, i32_w]
            rfl
           refine take_ (i := 5) (N := some 30) (v := ?_) (a' := ?_) #[true, true, true, true, true, true, true, false, false, false, false, false, false, false, false, false, false, false, false, false, false, false, false, false, false, false] rfl rfl (take_ofW HT_.out HW_.out (by kernel_rfl)) (fun _ _ _ h => h) (Or.inl ⟨by rfl, ?_⟩) hHeld ?_ ?_
           rotate_left
           ·rintro w' ⟨s0, s1, s2, s3, s4, s5, s6, s7⟩
            go_simp
            with_reducible rfl
           rotate_left
           ·simp only [Act.put, List.setIfInBounds_toArray, List.set_cons_zero, List.set_cons_succ, i64_w, i32_w]
            rfl
           refine take_ (i := 7) (N := some 32) (v := ?_) (a' := ?_) #[true, true, true, true, true, true, true, true, false, false, false, false, false, false, false, false, false, false, false, false, false, false, false, false, false, false] rfl rfl (take_ofW HT_.out HW_.out (by kernel_rfl)) (fun _ _ _ h => h) (Or.inl ⟨by rfl, ?_⟩) hHeld ?_ ?_
           rotate_left
           ·rintro w' ⟨s0, s1, s2, s3, s4, s5, s6, s7⟩
            go_simp
            with_reducible rfl
           rotate_left
           ·simp only [Act.put, List.setIfInBounds_toArray, List.set_cons_zero, List.set_cons_succ, i64_w, i32_w]
            rfl
           refine pure_ (i := 8) (N := some 33) (v := ?_) (a' := ?_) #[true, true, true, true, true, true, true, true, true, false, false, false, false, false, false, false, false, false, false, false, false, false, false, false, false, false] rfl rfl (any_of HT_.out (by kernel_rfl)) (fun _ _ _ h => h) (Or.inl ⟨by rfl, ?_⟩) ?_ ?_
           rotate_left
           ·intro w'
            go_simp
            with_reducible rfl
           rotate_left
           ·simp only [Act.put, List.setIfInBounds_toArray, List.set_cons_zero, List.set_cons_succ, i64_w, i32_w]
            rfl
           refine pure_ (i := 9) (N := some 34) (v := ?_) (a' := ?_) #[true, true, true, true, true, true, true, true, true, true, false, false, false, false, false, false, false, false, false, false, false, false, false, false, false, false] rfl rfl (any_of HT_.out (by kernel_rfl)) (fun _ _ _ h => h) (Or.inl ⟨by rfl, ?_⟩) ?_ ?_
           rotate_left
           ·intro w'
            go_simp
            with_reducible rfl
           rotate_left
           ·simp only [Act.put, List.setIfInBounds_toArray, List.set_cons_zero, List.set_cons_succ, i64_w, i32_w]
            rfl
           refine pure_ (i := 10) (N := some 35) (v := ?_) (a' := ?_) #[true, true, true, true, true, true, true, true, true, true, true, false, false, false, false, false, false, false, false, false, false, false, false, false, false, false] rfl rfl (any_of HT_.out (by kernel_rfl)) (fun _ _ _ h => h) (Or.inl ⟨by rfl, ?_⟩) ?_ ?_
           rotate_left
           ·intro w'
            go_simp
            with_reducible rfl
           rotate_left
           ·simp only [Act.put, List.setIfInBounds_toArray, List.set_cons_zero, List.set_cons_succ, i64_w, i32_w]
            rfl
           refine pure_ (i := 11) (N := some 36) (v := undef) (a' := ?_) #[true, true, true, true, true, true, true, true, true, true, true, true, false, false, false, false, false, false, false, false, false, false, false, false, false, false] rfl rfl (any_of HT_.out (by kernel_rfl)) (fun _ _ _ h => h) (Or.inr ⟨by rfl, rfl⟩) ?_ ?_
           rotate_left
           ·simp only [Act.put, List.setIfInBounds_toArray, List.set_cons_zero, List.set_cons_succ, i64_w, i32_w]
            rfl
           refine pure_ (i := 12) (N := some 37) (v := undef) (a' := ?_) #[true, true, true, true, true, true, true, true, true, true, true, true, true, false, false, false, false, false, false, false, false, false, false, false, false, false] rfl rfl (any_of HT_.out (by kernel_rfl)) (fun _ _ _ h => h) (Or.inr ⟨by rfl, rfl⟩) ?_ ?_
           rotate_left
           ·simp only [Act.put, List.setIfInBounds_toArray, List.set_cons_zero, List.set_cons_succ, i64_w, i32_w]
            rfl
           refine pure_ (i := 13) (N := some 38) (v := undef) (a' := ?_) #[true, true, true, true, true, true, true, true, true, true, true, true, true, true, false, false, false, false, false, false, false, false, false, false, false, false] rfl rfl (any_of HT_.out (by kernel_rfl)) (fun _ _ _ h => h) (Or.inr ⟨by rfl, rfl⟩) ?_ ?_
           rotate_left
           ·simp only [Act.put, List.setIfInBounds_toArray, List.set_cons_zero, List.set_cons_succ, i64_w, i32_w]
            rfl
           refine pure_ (i := 14) (N := some 39) (v := undef) (a' := ?_) #[true, true, true, true, true, true, true, true, true, true, true, true, true, true, true, false, false, false, false, false, false, false, false, false, false, false] rfl rfl (any_of HT_.out (by kernel_rfl)) (fun _ _ _ h => h) (Or.inr ⟨by rfl, rfl⟩) ?_ ?_
           rotate_left
           ·simp only [Act.put, List.setIfInBounds_toArray, List.set_cons_zero, List.set_cons_succ, i64_w, i32_w]
            rfl
           refine pure_ (i := 15) (N := some 40) (v := undef) (a' := ?_) #[true, true, true, true, true, true, true, true, true, true, true, true, true, true, true, true, false, false, false, false, false, false, false, false, false, false] rfl rfl (any_of HT_.out (by kernel_rfl)) (fun _ _ _ h => h) (Or.inr ⟨by rfl, rfl⟩) ?_ ?_
           rotate_left
           ·simp only [Act.put, List.setIfInBounds_toArray, List.set_cons_zero, List.set_cons_succ, i64_w, i32_w]
            rfl
           refine pure_ (i := 16) (N := some 41) (v := undef) (a' := ?_) #[true, true, true, true, true, true, true, true, true, true, true, true, true, true, true, true, true, false, false, false, false, false, false, false, false, false] rfl rfl (any_of HT_.out (by kernel_rfl)) (fun _ _ _ h => h) (Or.inr ⟨by rfl, rfl⟩) ?_ ?_
           rotate_left
           ·simp only [Act.put, List.setIfInBounds_toArray, List.set_cons_zero, List.set_cons_succ, i64_w, i32_w]
            rfl
           refine pure_ (i := 17) (N := some 42) (v := undef) (a' := ?_) #[true, true, true, true, true, true, true, true, true, true, true, true, true, true, true, true, true, true, false, false, false, false, false, false, false, false] rfl rfl (any_of HT_.out (by kernel_rfl)) (fun _ _ _ h => h) (Or.inr ⟨by rfl, rfl⟩) ?_ ?_
           rotate_left
           ·simp only [Act.put, List.setIfInBounds_toArray, List.set_cons_zero, List.set_cons_succ, i64_w, i32_w]
            rfl
           refine pure_ (i := 18) (N := some 43) (v := undef) (a' := ?_) #[true, true, true, true, true, true, true, true, true, true, true, true, true, true, true, true, true, true, true, false, false, false, false, false, false, false] rfl rfl (any_of HT_.out (by kernel_rfl)) (fun _ _ _ h => h) (Or.inr ⟨by rfl, rfl⟩) ?_ ?_
           rotate_left
           ·simp only [Act.put, List.setIfInBounds_toArray, List.set_cons_zero, List.set_cons_succ, i64_w, i32_w]
            rfl
           refine pure_ (i := 19) (N := some 44) (v := undef) (a' := ?_) #[true, true, true, true, true, true, true, true, true, true, true, true, true, true, true, true, true, true, true, true, false, false, false, false, false, false] rfl rfl (any_of HT_.out (by kernel_rfl)) (fun _ _ _ h => h) (Or.inr ⟨by rfl, rfl⟩) ?_ ?_
           rotate_left
           ·simp only [Act.put, List.setIfInBounds_toArray, List.set_cons_zero, List.set_cons_succ, i64_w, i32_w]
            rfl
           refine pure_ (i := 20) (N := some 45) (v := undef) (a' := ?_) #[true, true, true, true, true, true, true, true, true, true, true, true, true, true, true, true, true, true, true, true, true, false, false, false, false, false] rfl rfl (any_of HT_.out (by kernel_rfl)) (fun _ _ _ h => h) (Or.inr ⟨by rfl, rfl⟩) ?_ ?_
           rotate_left
           ·simp only [Act.put, List.setIfInBounds_toArray, List.set_cons_zero, List.set_cons_succ, i64_w, i32_w]
            rfl
           refine pure_ (i := 21) (N := some 46) (v := undef) (a' := ?_) #[true, true, true, true, true, true, true, true, true, true, true, true, true, true, true, true, true, true, true, true, true, true, false, false, false, false] rfl rfl (any_of HT_.out (by kernel_rfl)) (fun _ _ _ h => h) (Or.inr ⟨by rfl, rfl⟩) ?_ ?_
           rotate_left
           ·simp only [Act.put, List.setIfInBounds_toArray, List.set_cons_zero, List.set_cons_succ, i64_w, i32_w]
            rfl
           refine pure_ (i := 22) (N := some 47) (v := undef) (a' := ?_) #[true, true, true, true, true, true, true, true, true, true, true, true, true, true, true, true, true, true, true, true, true, true, true, false, false, false] rfl rfl (any_of HT_.out (by kernel_rfl)) (fun _ _ _ h => h) (Or.inr ⟨by rfl, rfl⟩) ?_ ?_
           rotate_left
           ·simp only [Act.put, List.setIfInBounds_toArray, List.set_cons_zero, List.set_cons_succ, i64_w, i32_w]
            rfl
           refine pure_ (i := 23) (N := some 48) (v := undef) (a' := ?_) #[true, true, true, true, true, true, true, true, true, true, true, true, true, true, true, true, true, true, true, true, true, true, true, true, false, false] rfl rfl (any_of HT_.out (by kernel_rfl)) (fun _ _ _ h => h) (Or.inr ⟨by rfl, rfl⟩) ?_ ?_
           rotate_left
           ·simp only [Act.put, List.setIfInBounds_toArray, List.set_cons_zero, List.set_cons_succ, i64_w, i32_w]
            rfl
           refine pure_ (i := 24) (N := some 49) (v := undef) (a' := ?_) #[true, true, true, true, true, true, true, true, true, true, true, true, true, true, true, true, true, true, true, true, true, true, true, true, true, false] rfl rfl (any_of HT_.out (by kernel_rfl)) (fun _ _ _ h => h) (Or.inr ⟨by rfl, rfl⟩) ?_ ?_
           rotate_left
           ·simp only [Act.put, List.setIfInBounds_toArray, List.set_cons_zero, List.set_cons_succ, i64_w, i32_w]
            rfl
           refine pure_ (i := 25) (N := some 50) (v := ?_) (a' := ?_) #[true, true, true, true, true, true, true, true, true, true, true, true, true, true, true, true, true, true, true, true, true, true, true, true, true, true] rfl rfl (any_of HT_.out (by kernel_rfl)) (fun _ _ _ h => h) (Or.inl ⟨by rfl, ?_⟩) ?_ ?_
           rotate_left
           ·intro w'
            go_simp
            with_reducible rfl
           rotate_left
           ·simp only [Act.put, List.setIfInBounds_toArray, List.set_cons_zero, List.set_cons_succ, i64_w, i32_w]
            rfl
           refine done_ (done_of HT_.out (by kernel_rfl)) ?_
           try go_wp2
           go_ret
           exact ⟨oE, oB⟩
          ·replace H := itG H
           rcases H with ⟨c22b0, H⟩ | ⟨c22b0, H⟩
           ·obtain ⟨ji23, hji23⟩ : ∃ j_ : Int, (wrap64 (x20_2 - 1)) = j_ := ⟨_, rfl⟩
            replace H : (if 0 ≤ (ji23) then (if (ji23) < (l0_0.length : Int) then (if ((rd_T45 l0_0 (ji23)).f0) ≥ ((rd_T45 l0_0 x20_2).f0) then (some false) else (impl_TabOk.l0 k2 l0_0 (l0_0.length : Int) (wrap64 (x20_2 + 1)) l0_0 a0_1)) else (none)) else (none)) = some r := by first | (rw [hji23] at H; exact H) | (simp only [hji23] at H ⊢; exact H)
            (try rw [hji23] at A13)
            have hji23w : (IntKind.i64.wrap (x20_2 - 1)) = ji23 := (i64_w _).trans hji23
            replace H := itD H
            rcases H with ⟨c24b0, H⟩ | ⟨c24b0, H⟩
            ·replace H := itD H
             rcases H with ⟨c25b0, H⟩ | ⟨c25b0, H⟩
             ·replace H := itH H
              rcases H with ⟨c26b0, H⟩ | ⟨c26b0, H⟩
              ·obtain rfl := Option.some.inj H
               have p288 : (0 ≤ (x20_2 : Int)) = True := oT
               have q288 : (x20_2 < (l0_0.length : Int)) = True := oT
               obtain ⟨ad288, A288_3, c288_3, A288_4, c288_4, A288_5, c288_5, e288, hx288_0, hx288_1, hx288_2, hx288_3, hx288_4, hx288_5, hl288_3, hi288_3, hl288_4, hi288_4, hl288_5, hi288_5⟩ := at_T45 HR0_0.out x20_2 oa oa
               cases e288
               replace hx288_0 := cB HB hx288_0
               replace hx288_1 := cB HB hx288_1
               replace hx288_2 := cB HB hx288_2
               replace hx288_3 := cB HB hx288_3
               replace hx288_4 := cB HB hx288_4
               replace hx288_5 := cB HB hx288_5
               have HR288_3 := Aside0.mk hi288_3
               have HC288_3 := Aside0.mk hl288_3
               clear hi288_3 hl288_3
               have HR288_4 := Aside0.mk hi288_4
               have HC288_4 := Aside0.mk hl288_4
               clear hi288_4 hl288_4
               have HR288_5 := Aside0.mk hi288_5
               have HC288_5 := Aside0.mk hl288_5
               clear hi288_5 hl288_5
               try go_wp2_with (first | ((with_reducible refine gate_dst (N := 4) rfl ?_); refine bx_ 4 #[.int .i64 0, .int .i64 0, .int .i64 0, .slice none 0 0, .slice none 0 0, .slice none 0 0] 45 ?_; intro gb289 hg w27 hbox hb; have BK289 := Aside0.mk (hbox); have GW289 := gs_ hg; have GE289 := gs_ hg; have NB286_289 := nl_ hg BK286; have NB289_286 := nr_ hg BK286; replace BK286 := kb_ BK286 hb; replace HB := Aside0.mk (below_step oB hb); clear hb hbox hg; have hnb28 := NB289_286.out; have hnc28 := NB286_289.out; obtain ⟨⟨_, _, _, _, _, _⟩, _, _, _, _, _, _⟩ := z6 BK289))
               have n0_ : Aside0 (((((((w27.setCell ⟨gb289, 0, none⟩ (.int .i64 ((rd_T45 l0_0 x20_2).f0))).setCell ⟨gb289, 1, none⟩ (.int .i64 ((rd_T45 l0_0 x20_2).f1))).setCell ⟨gb289, 2, none⟩ (.int .i64 ((rd_T45 l0_0 x20_2).f2))).setCell ⟨gb289, 3, none⟩ (.slice A288_3 ((rd_T45 l0_0 x20_2).f3).length c288_3)).setCell ⟨gb289, 4, none⟩ (.slice A288_4 ((rd_T45 l0_0 x20_2).f4).length c288_4)).setCell ⟨gb289, 5, none⟩ (.slice A288_5 ((rd_T45 l0_0 x20_2).f5).length c288_5)).heap[gb286]? = some (.cells #[.slice (some ad288) l0_0.length c0_0, .int .i64 a0_1] 30 (0, 0))) := ⟨by (with_reducible repeat (first | refine blk_drewN ?_ _ | refine blk_drew ?_ | refine blk_alloc ?_ _)); refine blk_far ?_ NB286_289.out _; (with_reducible repeat (first | refine blk_drewN ?_ _ | refine blk_drew ?_ | refine blk_alloc ?_ _)); refine blk_far ?_ NB286_289.out _; (with_reducible repeat (first | refine blk_drewN ?_ _ | refine blk_drew ?_ | refine blk_alloc ?_ _)); refine blk_far ?_ NB286_289.out _; (with_reducible repeat (first | refine blk_drewN ?_ _ | refine blk_drew ?_ | refine blk_alloc ?_ _)); refine blk_far ?_ NB286_289.out _; (with_reducible repeat (first | refine blk_drewN ?_ _ | refine blk_drew ?_ | refine blk_alloc ?_ _)); refine blk_far ?_ NB286_289.out _; (with_reducible repeat (first | refine blk_drewN ?_ _ | refine blk_drew ?_ | refine blk_alloc ?_ _)); refine blk_far ?_ NB286_289.out _; (with_reducible repeat (first | refine blk_drewN ?_ _ | refine blk_drew ?_ | refine blk_alloc ?_ _)); exact BK286.out⟩
               have n1_ : Aside0 (((((((w27.setCell ⟨gb289, 0, none⟩ (.int .i64 ((rd_T45 l0_0 x20_2).f0))).setCell ⟨gb289, 1, none⟩ (.int .i64 ((rd_T45 l0_0 x20_2).f1))).setCell ⟨gb289, 2, none⟩ (.int .i64 ((rd_T45 l0_0 x20_2).f2))).setCell ⟨gb289, 3, none⟩ (.slice A288_3 ((rd_T45 l0_0 x20_2).f3).length c288_3)).setCell ⟨gb289, 4, none⟩ (.slice A288_4 ((rd_T45 l0_0 x20_2).f4).length c288_4)).setCell ⟨gb289, 5, none⟩ (.slice A288_5 ((rd_T45 l0_0 x20_2).f5).length c288_5)).heap[gb289]? = some (.cells #[.int .i64 ((rd_T45 l0_0 x20_2).f0), .int .i64 ((rd_T45 l0_0 x20_2).f1), .int .i64 ((rd_T45 l0_0 x20_2).f2), .slice A288_3 ((rd_T45 l0_0 x20_2).f3).length c288_3, .slice A288_4 ((rd_T45 l0_0 x20_2).f4).length c288_4, .slice A288_5 ((rd_T45 l0_0 x20_2).f5).length c288_5] 45 (0, 0))) := ⟨by (with_reducible repeat (first | refine blk_drewN ?_ _ | refine blk_drew ?_ | refine blk_alloc ?_ _)); refine blk_put (cs := #[.int .i64 ((rd_T45 l0_0 x20_2).f0), .int .i64 ((rd_T45 l0_0 x20_2).f1), .int .i64 ((rd_T45 l0_0 x20_2).f2), .slice A288_3 ((rd_T45 l0_0 x20_2).f3).length c288_3, .slice A288_4 ((rd_T45 l0_0 x20_2).f4).length c288_4, .slice none 0 0]) ?_ 5 _ rfl; (with_reducible repeat (first | refine blk_drewN ?_ _ | refine blk_drew ?_ | refine blk_alloc ?_ _)); refine blk_put (cs := #[.int .i64 ((rd_T45 l0_0 x20_2).f0), .int .i64 ((rd_T45 l0_0 x20_2).f1), .int .i64 ((rd_T45 l0_0 x20_2).f2), .slice A288_3 ((rd_T45 l0_0 x20_2).f3).length c288_3, .slice none 0 0, .slice none 0 0]) ?_ 4 _ rfl; (with_reducible repeat (first | refine blk_drewN ?_ _ | refine blk_drew ?_ | refine blk_alloc ?_ _)); refine blk_put (cs := #[.int .i64 ((rd_T45 l0_0 x20_2).f0), .int .i64 ((rd_T45 l0_0 x20_2).f1), .int .i64 ((rd_T45 l0_0 x20_2).f2), .slice none 0 0, .slice none 0 0, .slice none 0 0]) ?_ 3 _ rfl; (with_reducible repeat (first | refine blk_drewN ?_ _ | refine blk_drew ?_ | refine blk_alloc ?_ _)); refine blk_put (cs := #[.int .i64 ((rd_T45 l0_0 x20_2).f0), .int .i64 ((rd_T45 l0_0 x20_2).f1), .int .i64 0, .slice none 0 0, .slice none 0 0, .slice none 0 0]) ?_ 2 _ rfl; (with_reducible repeat (first | refine blk_drewN ?_ _ | refine blk_drew ?_ | refine blk_alloc ?_ _)); refine blk_put (cs := #[.int .i64 ((rd_T45 l0_0 x20_2).f0), .int .i64 0, .int .i64 0, .slice none 0 0, .slice none 0 0, .slice none 0 0]) ?_ 1 _ rfl; (with_reducible repeat (first | refine blk_drewN ?_ _ | refine blk_drew ?_ | refine blk_alloc ?_ _)); refine blk_put (cs := #[.int .i64 0, .int .i64 0, .int .i64 0, .slice none 0 0, .slice none 0 0, .slice none 0 0]) ?_ 0 _ rfl; (with_reducible repeat (first | refine blk_drewN ?_ _ | refine blk_drew ?_ | refine blk_alloc ?_ _)); exact BK289.out⟩
               have n2_ : Aside0 (Below w.heap.size w ((((((w27.setCell ⟨gb289, 0, none⟩ (.int .i64 ((rd_T45 l0_0 x20_2).f0))).setCell ⟨gb289, 1, none⟩ (.int .i64 ((rd_T45 l0_0 x20_2).f1))).setCell ⟨gb289, 2, none⟩ (.int .i64 ((rd_T45 l0_0 x20_2).f2))).setCell ⟨gb289, 3, none⟩ (.slice A288_3 ((rd_T45 l0_0 x20_2).f3).length c288_3)).setCell ⟨gb289, 4, none⟩ (.slice A288_4 ((rd_T45 l0_0 x20_2).f4).length c288_4)).setCell ⟨gb289, 5, none⟩ (.slice A288_5 ((rd_T45 l0_0 x20_2).f5).length c288_5))) := ⟨oB⟩
               (try clear BK286)
               (try clear BK289)
               (try clear HB)
               generalize ((((((w27.setCell ⟨gb289, 0, none⟩ (.int .i64 ((rd_T45 l0_0 x20_2).f0))).setCell ⟨gb289, 1, none⟩ (.int .i64 ((rd_T45 l0_0 x20_2).f1))).setCell ⟨gb289, 2, none⟩ (.int .i64 ((rd_T45 l0_0 x20_2).f2))).setCell ⟨gb289, 3, none⟩ (.slice A288_3 ((rd_T45 l0_0 x20_2).f3).length c288_3)).setCell ⟨gb289, 4, none⟩ (.slice A288_4 ((rd_T45 l0_0 x20_2).f4).length c288_4)).setCell ⟨gb289, 5, none⟩ (.slice A288_5 ((rd_T45 l0_0 x20_2).f5).length c288_5)) = w30 at n0_ n1_ n2_ ⊢
               have BK286 := n0_
               have BK289 := n1_
               have HB := n2_
               clear n0_ n1_ n2_
               replace BK286 := Aside0.mk (blk_drew BK286.out)
               replace BK289 := Aside0.mk (blk_drew BK289.out)
               replace HB := Aside0.mk (below_drew1 HB.out)
               have p291 : (0 ≤ ((ji23) : Int)) = True := oT
               have q291 : ((ji23) < (l0_0.length : Int)) = True := oT
               obtain ⟨ad291, A291_3, c291_3, A291_4, c291_4, A291_5, c291_5, e291, hx291_0, hx291_1, hx291_2, hx291_3, hx291_4, hx291_5, hl291_3, hi291_3, hl291_4, hi291_4, hl291_5, hi291_5⟩ := at_T45 HR0_0.out (ji23) oa oa
               have hw291_5 := hx291_5
               have hw291_4 := hx291_4
               have hw291_3 := hx291_3
               have hw291_2 := hx291_2
               have hw291_1 := hx291_1
               have hw291_0 := hx291_0
               obtain rfl : ad288 = ad291 := (by injection e291)
               replace hx291_0 := cB HB hx291_0
               replace hx291_1 := cB HB hx291_1
               replace hx291_2 := cB HB hx291_2
               replace hx291_3 := cB HB hx291_3
               replace hx291_4 := cB HB hx291_4
               replace hx291_5 := cB HB hx291_5
               have HR291_3 := Aside0.mk hi291_3
               have HC291_3 := Aside0.mk hl291_3
               clear hi291_3 hl291_3
               have HR291_4 := Aside0.mk hi291_4
               have HC291_4 := Aside0.mk hl291_4
               clear hi291_4 hl291_4
               have HR291_5 := Aside0.mk hi291_5
               have HC291_5 := Aside0.mk hl291_5
               clear hi291_5 hl291_5
               refine start_ (n := 26) (S := fun w' => w'.cell? ⟨gb289, 0, none⟩ = some (.int .i64 ((rd_T45 l0_0 x20_2).f0)) ∧ w'.cell? ⟨gb289, 1, none⟩ = some (.int .i64 ((rd_T45 l0_0 x20_2).f1)) ∧ w'.cell? ⟨gb289, 2, none⟩ = some (.int .i64 ((rd_T45 l0_0 x20_2).f2)) ∧ w'.cell? ⟨gb289, 3, none⟩ = some (.slice A288_3 ((rd_T45 l0_0 x20_2).f3).length c288_3) ∧ w'.cell? ⟨gb289, 4, none⟩ = some (.slice A288_4 ((rd_T45 l0_0 x20_2).f4).length c288_4) ∧ w'.cell? ⟨gb289, 5, none⟩ = some (.slice A288_5 ((rd_T45 l0_0 x20_2).f5).length c288_5) ∧ w'.cell? ⟨gb286, 0, none⟩ = some (.slice (some ad288) l0_0.length c0_0) ∧ w'.cell? ⟨gb286, 1, none⟩ = some (.int .i64 a0_1) ∧ w'.cell? (ad288.add (((ji23)).toNat * 6)) = some (.int .i64 ((rd_T45 l0_0 (ji23)).f0)) ∧ w'.cell? ⟨(ad288.add (((ji23)).toNat * 6)).block, (ad288.add (((ji23)).toNat * 6)).off + 1, none⟩ = some (.int .i64 ((rd_T45 l0_0 (ji23)).f1)) ∧ w'.cell? ⟨(ad288.add (((ji23)).toNat * 6)).block, (ad288.add (((ji23)).toNat * 6)).off + 2, none⟩ = some (.int .i64 ((rd_T45 l0_0 (ji23)).f2)) ∧ w'.cell? ⟨(ad288.add (((ji23)).toNat * 6)).block, (ad288.add (((ji23)).toNat * 6)).off + 3, none⟩ = some (.slice A291_3 ((rd_T45 l0_0 (ji23)).f3).length c291_3) ∧ w'.cell? ⟨(ad288.add (((ji23)).toNat * 6)).block, (ad288.add (((ji23)).toNat * 6)).off + 4, none⟩ = some (.slice A291_4 ((rd_T45 l0_0 (ji23)).f4).length c291_4) ∧ w'.cell? ⟨(ad288.add (((ji23)).toNat * 6)).block, (ad288.add (((ji23)).toNat * 6)).off + 5, none⟩ = some (.slice A291_5 ((rd_T45 l0_0 (ji23)).f5).length c291_5)) (ds := []) #[false, false, false, false, false, false, false, false, false, false, false, false, false, false, false, false, false, false, false, false, false, false, false, false, false, false] (by kernel_rfl) rfl rfl ⟨(blk_cell BK289.out 0).trans rfl, (blk_cell BK289.out 1).trans rfl, (blk_cell BK289.out 2).trans rfl, (blk_cell BK289.out 3).trans rfl, (blk_cell BK289.out 4).trans rfl, (blk_cell BK289.out 5).trans rfl, (blk_cell BK286.out 0).trans rfl, (blk_cell BK286.out 1).trans rfl, (cB HB hw291_0), (cB HB hw291_1), (cB HB hw291_2), (cB HB hw291_3), (cB HB hw291_4), (cB HB hw291_5)⟩ (fun hHeld => ?_); refine with_tabW impl_TabOk.tab6 impl_TabOk.bits6 (fun HT_ HW_ => ?_)
               generalize w30.drew = w31 at BK286 BK289 HB HR291_3 HR291_4 HR291_5 hx291_0 hx291_1 hx291_2 hx291_3 hx291_4 hx291_5 hHeld ⊢
               refine take_ (i := 0) (N := some 25) (v := ?_) (a' := ?_) #[true, false, false, false, false, false, false, false, false, false, false, false, false, false, false, false, false, false, false, false, false, false, false, false, false, false] rfl rfl (take_ofW HT_.out HW_.out (by kernel_rfl)) (fun _ _ _ h => h) (Or.inl ⟨by rfl, ?_⟩) hHeld ?_ ?_
               rotate_left
               ·rintro w' ⟨s0, s1, s2, s3, s4, s5, s6, s7, s8, s9, s10, s11, s12, s13⟩
                go_simp
                with_reducible rfl
               rotate_left
               ·simp only [Act.put, List.setIfInBounds_toArray, List.set_cons_zero, List.set_cons_succ, i64_w, i32_w]
                rfl
               refine one_ (i := 1) (N := some 26) #[true, true, false, false, false, false, false, false, false, false, false, false, false, false, false, false, false, false, false, false, false, false, false, false, false, false] rfl rfl (one_of HT_.out (by kernel_rfl)) (by decide) (fun K hK => ?_)
               refine gr_ 26 Try.func38 (impl_InodeOk.calls k2 ((rd_T45 l0_0 x20_2).f0) ((rd_T45 l0_0 x20_2).f1) ((rd_T45 l0_0 x20_2).f2) _ _ ((rd_T45 l0_0 x20_2).f3) _ _ ((rd_T45 l0_0 x20_2).f4) _ _ ((rd_T45 l0_0 x20_2).f5) true _ (kC HR288_3) HC288_3.out (kC HR288_4) HC288_4.out (kC HR288_5) HC288_5.out A13.out) ?_
               rintro e w32 ⟨rfl, hb⟩
               refine ⟨_, rfl, ?_⟩
               replace BK286 := kb_ BK286 hb
               replace BK289 := kb_ BK289 hb
               replace HB := Aside0.mk (below_step oB hb)
               refine hK.out _ _ ⟨(blk_cell BK289.out 0).trans rfl, (blk_cell BK289.out 1).trans rfl, (blk_cell BK289.out 2).trans rfl, (blk_cell BK289.out 3).trans rfl, (blk_cell BK289.out 4).trans rfl, (blk_cell BK289.out 5).trans rfl, (blk_cell BK286.out 0).trans rfl, (blk_cell BK286.out 1).trans rfl, (cB HB hw291_0), (cB HB hw291_1), (cB HB hw291_2), (cB HB hw291_3), (cB HB hw291_4), (cB HB hw291_5)⟩ (fun hHeld => ?_)
               clear hK K
               refine norm_ (a' := ?_) ?_ ?_
               rotate_left
               ·show Act.put _ (some 26) _ = _
                simp only [Act.put, List.setIfInBounds_toArray, List.set_cons_zero, List.set_cons_succ, i64_w, i32_w]
                rfl
               refine pure_ (i := 2) (N := some 27) (v := ?_) (a' := ?_) #[true, true, true, false, false, false, false, false, false, false, false, false, false, false, false, false, false, false, false, false, false, false, false, false, false, false] rfl rfl (any_of HT_.out (by kernel_rfl)) (fun _ _ _ h => h) (Or.inl ⟨by rfl, ?_⟩) ?_ ?_
               rotate_left
               ·intro w'
                go_simp
                with_reducible rfl
               rotate_left
               ·simp only [Act.put, List.setIfInBounds_toArray, List.set_cons_zero, List.set_cons_succ, i64_w, i32_w]
                rfl
               refine pure_ (i := 3) (N := some 28) (v := ?_) (a' := ?_) #[true, true, true, true, false, false, false, false, false, false, false, false, false, false, false, false, false, false, false, false, false, false, false, false, false, false] rfl rfl (any_of HT_.out (by kernel_rfl)) (fun _ _ _ h => h) (Or.inl ⟨by rfl, ?_⟩) ?_ ?_
               rotate_left
               ·intro w'
                go_simp
                with_reducible rfl
               rotate_left
               ·simp only [Act.put, List.setIfInBounds_toArray, List.set_cons_zero, List.set_cons_succ, i64_w, i32_w]
                rfl
               refine pure_ (i := 4) (N := some 29) (v := ?_) (a' := ?_) #[true, true, true, true, true, false, false, false, false, false, false, false, false, false, false, false, false, false, false, false, false, false, false, false, false, false] rfl rfl (any_of HT_.out (by kernel_rfl)) (fun _ _ _ h => h) (Or.inl ⟨by rfl, ?_⟩) ?_ ?_
               rotate_left
               ·intro w'
                go_simp
                with_reducible rfl
               rotate_left
               ·simp only [Act.put, List.setIfInBounds_toArray, List.set_cons_zero, List.set_cons_succ, i64_w, i32_w]
                rfl
               refine pure_ (i := 6) (N := some 31) (v := ?_) (a' := ?_) #[true, true, true, true, true, false, true, false, false, false, false, false, false, false, false, false, false, false, false, false, false, false, false, false, false, false] rfl rfl (any_of HT_.out (by kernel_rfl)) (fun _ _ _ h => h) (Or.inl ⟨by rfl, ?_⟩) ?_ ?_
               rotate_left
               ·intro w'
                go_simp
                with_reducible rfl
               rotate_left
               ·simp only [Act.put, List.setIfInBounds_toArray, List.set_cons_zero, List.set_cons_succ, i64_w, i32_w]
                rfl
               refine take_ (i := 5) (N := some 30) (v := ?_) (a' := ?_) #[true, true, true, true, true, true, true, false, false, false, false, false, false, false, false, false, false, false, false, false, false, false, false, false, false, false] rfl rfl (take_ofW HT_.out HW_.out (by kernel_rfl)) (fun _ _ _ h => h) (Or.inl ⟨by rfl, ?_⟩) hHeld ?_ ?_
               rotate_left
               ·rintro w' ⟨s0, s1, s2, s3, s4, s5, s6, s7, s8, s9, s10, s11, s12, s13⟩
                go_simp
                with_reducible rfl
               rotate_left
               ·simp only [Act.put, List.setIfInBounds_toArray, List.set_cons_zero, List.set_cons_succ, i64_w, i32_w]
                rfl
               refine take_ (i := 7) (N := some 32) (v := ?_) (a' := ?_) #[true, true, true, true, true, true, true, true, false, false, false, false, false, false, false, false, false, false, false, false, false, false, false, false, false, false] rfl rfl (take_ofW HT_.out HW_.out (by kernel_rfl)) (fun _ _ _ h => h) (Or.inl ⟨by rfl, ?_⟩) hHeld ?_ ?_
               rotate_left
               ·rintro w' ⟨s0, s1, s2, s3, s4, s5, s6, s7, s8, s9, s10, s11, s12, s13⟩
                go_simp
                with_reducible rfl
               rotate_left
               ·simp only [Act.put, List.setIfInBounds_toArray, List.set_cons_zero, List.set_cons_succ, i64_w, i32_w]
                rfl
               refine pure_ (i := 8) (N := some 33) (v := ?_) (a' := ?_) #[true, true, true, true, true, true, true, true, true, false, false, false, false, false, false, false, false, false, false, false, false, false, false, false, false, false] rfl rfl (any_of HT_.out (by kernel_rfl)) (fun _ _ _ h => h) (Or.inl ⟨by rfl, ?_⟩) ?_ ?_
               rotate_left
               ·intro w'
                go_simp
                with_reducible rfl
               rotate_left
               ·simp only [Act.put, List.setIfInBounds_toArray, List.set_cons_zero, List.set_cons_succ, i64_w, i32_w]
                rfl
               refine pure_ (i := 9) (N := some 34) (v := ?_) (a' := ?_) #[true, true, true, true, true, true, true, true, true, true, false, false, false, false, false, false, false, false, false, false, false, false, false, false, false, false] rfl rfl (any_of HT_.out (by kernel_rfl)) (fun _ _ _ h => h) (Or.inl ⟨by rfl, ?_⟩) ?_ ?_
               rotate_left
               ·intro w'
                go_simp
                with_reducible rfl
               rotate_left
               ·simp only [Act.put, List.setIfInBounds_toArray, List.set_cons_zero, List.set_cons_succ, i64_w, i32_w]
                rfl
               refine pure_ (i := 10) (N := some 35) (v := ?_) (a' := ?_) #[true, true, true, true, true, true, true, true, true, true, true, false, false, false, false, false, false, false, false, false, false, false, false, false, false, false] rfl rfl (any_of HT_.out (by kernel_rfl)) (fun _ _ _ h => h) (Or.inl ⟨by rfl, ?_⟩) ?_ ?_
               rotate_left
               ·intro w'
                go_simp
                with_reducible rfl
               rotate_left
               ·simp only [Act.put, List.setIfInBounds_toArray, List.set_cons_zero, List.set_cons_succ, i64_w, i32_w]
                rfl
               refine pure_ (i := 11) (N := some 36) (v := ?_) (a' := ?_) #[true, true, true, true, true, true, true, true, true, true, true, true, false, false, false, false, false, false, false, false, false, false, false, false, false, false] rfl rfl (any_of HT_.out (by kernel_rfl)) (fun _ _ _ h => h) (Or.inl ⟨by rfl, ?_⟩) ?_ ?_
               rotate_left
               ·intro w'
                go_simp
                with_reducible rfl
               rotate_left
               ·simp only [Act.put, List.setIfInBounds_toArray, List.set_cons_zero, List.set_cons_succ, i64_w, i32_w]
                rfl
               refine pure_ (i := 12) (N := some 37) (v := ?_) (a' := ?_) #[true, true, true, true, true, true, true, true, true, true, true, true, true, false, false, false, false, false, false, false, false, false, false, false, false, false] rfl rfl (any_of HT_.out (by kernel_rfl)) (fun _ _ _ h => h) (Or.inl ⟨by rfl, ?_⟩) ?_ ?_
               rotate_left
               ·intro w'
                go_simp
                with_reducible rfl
               rotate_left
               ·simp only [Act.put, List.setIfInBounds_toArray, List.set_cons_zero, List.set_cons_succ, i64_w, i32_w]
                rfl
               refine pure_ (i := 13) (N := some 38) (v := ?_) (a' := ?_) #[true, true, true, true, true, true, true, true, true, true, true, true, true, true, false, false, false, false, false, false, false, false, false, false, false, false] rfl rfl (any_of HT_.out (by kernel_rfl)) (fun _ _ _ h => h) (Or.inl ⟨by rfl, ?_⟩) ?_ ?_
               rotate_left
               ·intro w'
                go_simp
                with_reducible rfl
               rotate_left
               ·simp only [Act.put, List.setIfInBounds_toArray, List.set_cons_zero, List.set_cons_succ, i64_w, i32_w]
                rfl
               refine pure_ (i := 14) (N := some 39) (v := ?_) (a' := ?_) #[true, true, true, true, true, true, true, true, true, true, true, true, true, true, true, false, false, false, false, false, false, false, false, false, false, false] rfl rfl (any_of HT_.out (by kernel_rfl)) (fun _ _ _ h => h) (Or.inl ⟨by rfl, ?_⟩) ?_ ?_
               rotate_left
               ·intro w'
                go_simp
                with_reducible rfl
               rotate_left
               ·simp only [Act.put, List.setIfInBounds_toArray, List.set_cons_zero, List.set_cons_succ, i64_w, i32_w]
                rfl
               refine pure_ (i := 16) (N := some 41) (v := ?_) (a' := ?_) #[true, true, true, true, true, true, true, true, true, true, true, true, true, true, true, false, true, false, false, false, false, false, false, false, false, false] rfl rfl (any_of HT_.out (by kernel_rfl)) (fun _ _ _ h => h) (Or.inl ⟨by rfl, ?_⟩) ?_ ?_
               rotate_left
               ·intro w'
                go_simp
                with_reducible rfl
               rotate_left
               ·simp only [Act.put, List.setIfInBounds_toArray, List.set_cons_zero, List.set_cons_succ, i64_w, i32_w]
                rfl
               refine pure_ (i := 17) (N := some 42) (v := ?_) (a' := ?_) #[true, true, true, true, true, true, true, true, true, true, true, true, true, true, true, false, true, true, false, false, false, false, false, false, false, false] rfl rfl (any_of HT_.out (by kernel_rfl)) (fun _ _ _ h => h) (Or.inl ⟨by rfl, ?_⟩) ?_ ?_
               rotate_left
               ·intro w'
                go_simp
                with_reducible rfl
               rotate_left
               ·simp only [Act.put, List.setIfInBounds_toArray, List.set_cons_zero, List.set_cons_succ, i64_w, i32_w]
                rfl
               refine pure_ (i := 21) (N := some 46) (v := ?_) (a' := ?_) #[true, true, true, true, true, true, true, true, true, true, true, true, true, true, true, false, true, true, false, false, false, true, false, false, false, false] rfl rfl (any_of HT_.out (by kernel_rfl)) (fun _ _ _ h => h) (Or.inl ⟨by rfl, ?_⟩) ?_ ?_
               rotate_left
               ·intro w'
                go_simp
                with_reducible rfl
               rotate_left
               ·simp only [Act.put, List.setIfInBounds_toArray, List.set_cons_zero, List.set_cons_succ, i64_w, i32_w]
                rfl
               refine take_ (i := 15) (N := some 40) (v := ?_) (a' := ?_) #[true, true, true, true, true, true, true, true, true, true, true, true, true, true, true, true, true, true, false, false, false, true, false, false, false, false] rfl rfl (take_ofW HT_.out HW_.out (by kernel_rfl)) (fun _ _ _ h => h) (Or.inl ⟨by rfl, ?_⟩) hHeld ?_ ?_
               rotate_left
               ·rintro w' ⟨s0, s1, s2, s3, s4, s5, s6, s7, s8, s9, s10, s11, s12, s13⟩
                go_simp
                with_reducible rfl
               rotate_left
               ·simp only [Act.put, List.setIfInBounds_toArray, List.set_cons_zero, List.set_cons_succ, i64_w, i32_w]
                rfl
               refine pure_ (i := 18) (N := some 43) (v := ?_) (a' := ?_) #[true, true, true, true, true, true, true, true, true, true, true, true, true, true, true, true, true, true, true, false, false, true, false, false, false, false] rfl rfl (any_of HT_.out (by kernel_rfl)) (fun _ _ _ h => h) (Or.inl ⟨by rfl, ?_⟩) ?_ ?_
               rotate_left
               ·intro w'
                go_simp
                with_reducible rfl
               rotate_left
               ·simp only [Act.put, List.setIfInBounds_toArray, List.set_cons_zero, List.set_cons_succ, i64_w, i32_w]
                rfl
               refine pure_ (i := 19) (N := some 44) (v := ?_) (a' := ?_) #[true, true, true, true, true, true, true, true, true, true, true, true, true, true, true, true, true, true, true, true, false, true, false, false, false, false] rfl rfl (any_of HT_.out (by kernel_rfl)) (fun _ _ _ h => h) (Or.inl ⟨by rfl, ?_⟩) ?_ ?_
               rotate_left
               ·intro w'
                go_simp
                with_reducible rfl
               rotate_left
               ·simp only [Act.put, List.setIfInBounds_toArray, List.set_cons_zero, List.set_cons_succ, i64_w, i32_w]
                rfl
               refine take_ (i := 20) (N := some 45) (v := ?_) (a' := ?_) #[true, true, true, true, true, true, true, true, true, true, true, true, true, true, true, true, true, true, true, true, true, true, false, false, false, false] rfl rfl (take_ofW HT_.out HW_.out (by kernel_rfl)) (fun _ _ _ h => h) (Or.inl ⟨by rfl, ?_⟩) hHeld ?_ ?_
               rotate_left
               ·rintro w' ⟨s0, s1, s2, s3, s4, s5, s6, s7, s8, s9, s10, s11, s12, s13⟩
                go_simp
                with_reducible rfl
               rotate_left
               ·simp only [Act.put, List.setIfInBounds_toArray, List.set_cons_zero, List.set_cons_succ, i64_w, i32_w]
                rfl
               refine take_ (i := 22) (N := some 47) (v := ?_) (a' := ?_) #[true, true, true, true, true, true, true, true, true, true, true, true, true, true, true, true, true, true, true, true, true, true, true, false, false, false] rfl rfl (take_ofW HT_.out HW_.out (by kernel_rfl)) (fun _ _ _ h => h) (Or.inl ⟨by rfl, ?_⟩) hHeld ?_ ?_
               rotate_left
               ·rintro w' ⟨s0, s1, s2, s3, s4, s5, s6, s7, s8, s9, s10, s11, s12, s13⟩
                go_simp
                with_reducible rfl
               rotate_left
               ·simp only [Act.put, List.setIfInBounds_toArray, List.set_cons_zero, List.set_cons_succ, i64_w, i32_w]
                rfl
               refine pure_ (i := 23) (N := some 48) (v := ?_) (a' := ?_) #[true, true, true, true, true, true, true, true, true, true, true, true, true, true, true, true, true, true, true, true, true, true, true, true, false, false] rfl rfl (any_of HT_.out (by kernel_rfl)) (fun _ _ _ h => h) (Or.inl ⟨by rfl, ?_⟩) ?_ ?_
               rotate_left
               ·intro w'
                go_simp
                with_reducible rfl
               rotate_left
               ·simp only [Act.put, List.setIfInBounds_toArray, List.set_cons_zero, List.set_cons_succ, i64_w, i32_w]
                rfl
               refine pure_ (i := 24) (N := some 49) (v := ?_) (a' := ?_) #[true, true, true, true, true, true, true, true, true, true, true, true, true, true, true, true, true, true, true, true, true, true, true, true, true, false] rfl rfl (any_of HT_.out (by kernel_rfl)) (fun _ _ _ h => h) (Or.inl ⟨by rfl, ?_⟩) ?_ ?_
               rotate_left
               ·intro w'
                go_simp
                with_reducible rfl
               rotate_left
               ·simp only [Act.put, List.setIfInBounds_toArray, List.set_cons_zero, List.set_cons_succ, i64_w, i32_w]
                rfl
               refine pure_ (i := 25) (N := some 50) (v := ?_) (a' := ?_) #[true, true, true, true, true, true, true, true, true, true, true, true, true, true, true, true, true, true, true, true, true, true, true, true, true, true] rfl rfl (any_of HT_.out (by kernel_rfl)) (fun _ _ _ h => h) (Or.inl ⟨by rfl, ?_⟩) ?_ ?_
               rotate_left
               ·intro w'
                go_simp
                with_reducible rfl
               rotate_left
               ·simp only [Act.put, List.setIfInBounds_toArray, List.set_cons_zero, List.set_cons_succ, i64_w, i32_w]
                rfl
               refine done_ (done_of HT_.out (by kernel_rfl)) ?_
               try go_wp2
               go_ret
               exact ⟨by first | rfl | (simp [errW_none, errW_some] <;> rfl) | (simp only [← hji23]; first | rfl | (simp [errW_none, errW_some] <;> rfl)) | (simp [*, errW_none, errW_some] <;> rfl), oB⟩
              ·have H' := Aside0.mk H
               clear H
               have p288 : (0 ≤ (x20_2 : Int)) = True := oT
               have q288 : (x20_2 < (l0_0.length : Int)) = True := oT
               obtain ⟨ad288, A288_3, c288_3, A288_4, c288_4, A288_5, c288_5, e288, hx288_0, hx288_1, hx288_2, hx288_3, hx288_4, hx288_5, hl288_3, hi288_3, hl288_4, hi288_4, hl288_5, hi288_5⟩ := at_T45 HR0_0.out x20_2 oa oa
               cases e288
               replace hx288_0 := cB HB hx288_0
               replace hx288_1 := cB HB hx288_1
               replace hx288_2 := cB HB hx288_2
               replace hx288_3 := cB HB hx288_3
               replace hx288_4 := cB HB hx288_4
               replace hx288_5 := cB HB hx288_5
               have HR288_3 := Aside0.mk hi288_3
               have HC288_3 := Aside0.mk hl288_3
               clear hi288_3 hl288_3
               have HR288_4 := Aside0.mk hi288_4
               have HC288_4 := Aside0.mk hl288_4
               clear hi288_4 hl288_4
               have HR288_5 := Aside0.mk hi288_5
               have HC288_5 := Aside0.mk hl288_5
               clear hi288_5 hl288_5
               try go_wp2_with (first | ((with_reducible refine gate_dst (N := 4) rfl ?_); refine bx_ 4 #[.int .i64 0, .int .i64 0, .int .i64 0, .slice none 0 0, .slice none 0 0, .slice none 0 0] 45 ?_; intro gb289 hg w33 hbox hb; have BK289 := Aside0.mk (hbox); have GW289 := gs_ hg; have GE289 := gs_ hg; have NB286_289 := nl_ hg BK286; have NB289_286 := nr_ hg BK286; replace BK286 := kb_ BK286 hb; replace HB := Aside0.mk (below_step oB hb); clear hb hbox hg; have hnb34 := NB289_286.out; have hnc34 := NB286_289.out; obtain ⟨⟨_, _, _, _, _, _⟩, _, _, _, _, _, _⟩ := z6 BK289))
               have n0_ : Aside0 (((((((w33.setCell ⟨gb289, 0, none⟩ (.int .i64 ((rd_T45 l0_0 x20_2).f0))).setCell ⟨gb289, 1, none⟩ (.int .i64 ((rd_T45 l0_0 x20_2).f1))).setCell ⟨gb289, 2, none⟩ (.int .i64 ((rd_T45 l0_0 x20_2).f2))).setCell ⟨gb289, 3, none⟩ (.slice A288_3 ((rd_T45 l0_0 x20_2).f3).length c288_3)).setCell ⟨gb289, 4, none⟩ (.slice A288_4 ((rd_T45 l0_0 x20_2).f4).length c288_4)).setCell ⟨gb289, 5, none⟩ (.slice A288_5 ((rd_T45 l0_0 x20_2).f5).length c288_5)).heap[gb286]? = some (.cells #[.slice (some ad288) l0_0.length c0_0, .int .i64 a0_1] 30 (0, 0))) := ⟨by (with_reducible repeat (first | refine blk_drewN ?_ _ | refine blk_drew ?_ | refine blk_alloc ?_ _)); refine blk_far ?_ NB286_289.out _; (with_reducible repeat (first | refine blk_drewN ?_ _ | refine blk_drew ?_ | refine blk_alloc ?_ _)); refine blk_far ?_ NB286_289.out _; (with_reducible repeat (first | refine blk_drewN ?_ _ | refine blk_drew ?_ | refine blk_alloc ?_ _)); refine blk_far ?_ NB286_289.out _; (with_reducible repeat (first | refine blk_drewN ?_ _ | refine blk_drew ?_ | refine blk_alloc ?_ _)); refine blk_far ?_ NB286_289.out _; (with_reducible repeat (first | refine blk_drewN ?_ _ | refine blk_drew ?_ | refine blk_alloc ?_ _)); refine blk_far ?_ NB286_289.out _; (with_reducible repeat (first | refine blk_drewN ?_ _ | refine blk_drew ?_ | refine blk_alloc ?_ _)); refine blk_far ?_ NB286_289.out _; (with_reducible repeat (first | refine blk_drewN ?_ _ | refine blk_drew ?_ | refine blk_alloc ?_ _)); exact BK286.out⟩
               have n1_ : Aside0 (((((((w33.setCell ⟨gb289, 0, none⟩ (.int .i64 ((rd_T45 l0_0 x20_2).f0))).setCell ⟨gb289, 1, none⟩ (.int .i64 ((rd_T45 l0_0 x20_2).f1))).setCell ⟨gb289, 2, none⟩ (.int .i64 ((rd_T45 l0_0 x20_2).f2))).setCell ⟨gb289, 3, none⟩ (.slice A288_3 ((rd_T45 l0_0 x20_2).f3).length c288_3)).setCell ⟨gb289, 4, none⟩ (.slice A288_4 ((rd_T45 l0_0 x20_2).f4).length c288_4)).setCell ⟨gb289, 5, none⟩ (.slice A288_5 ((rd_T45 l0_0 x20_2).f5).length c288_5)).heap[gb289]? = some (.cells #[.int .i64 ((rd_T45 l0_0 x20_2).f0), .int .i64 ((rd_T45 l0_0 x20_2).f1), .int .i64 ((rd_T45 l0_0 x20_2).f2), .slice A288_3 ((rd_T45 l0_0 x20_2).f3).length c288_3, .slice A288_4 ((rd_T45 l0_0 x20_2).f4).length c288_4, .slice A288_5 ((rd_T45 l0_0 x20_2).f5).length c288_5] 45 (0, 0))) := ⟨by (with_reducible repeat (first | refine blk_drewN ?_ _ | refine blk_drew ?_ | refine blk_alloc ?_ _)); refine blk_put (cs := #[.int .i64 ((rd_T45 l0_0 x20_2).f0), .int .i64 ((rd_T45 l0_0 x20_2).f1), .int .i64 ((rd_T45 l0_0 x20_2).f2), .slice A288_3 ((rd_T45 l0_0 x20_2).f3).length c288_3, .slice A288_4 ((rd_T45 l0_0 x20_2).f4).length c288_4, .slice none 0 0]) ?_ 5 _ rfl; (with_reducible repeat (first | refine blk_drewN ?_ _ | refine blk_drew ?_ | refine blk_alloc ?_ _)); refine blk_put (cs := #[.int .i64 ((rd_T45 l0_0 x20_2).f0), .int .i64 ((rd_T45 l0_0 x20_2).f1), .int .i64 ((rd_T45 l0_0 x20_2).f2), .slice A288_3 ((rd_T45 l0_0 x20_2).f3).length c288_3, .slice none 0 0, .slice none 0 0]) ?_ 4 _ rfl; (with_reducible repeat (first | refine blk_drewN ?_ _ | refine blk_drew ?_ | refine blk_alloc ?_ _)); refine blk_put (cs := #[.int .i64 ((rd_T45 l0_0 x20_2).f0), .int .i64 ((rd_T45 l0_0 x20_2).f1), .int .i64 ((rd_T45 l0_0 x20_2).f2), .slice none 0 0, .slice none 0 0, .slice none 0 0]) ?_ 3 _ rfl; (with_reducible repeat (first | refine blk_drewN ?_ _ | refine blk_drew ?_ | refine blk_alloc ?_ _)); refine blk_put (cs := #[.int .i64 ((rd_T45 l0_0 x20_2).f0), .int .i64 ((rd_T45 l0_0 x20_2).f1), .int .i64 0, .slice none 0 0, .slice none 0 0, .slice none 0 0]) ?_ 2 _ rfl; (with_reducible repeat (first | refine blk_drewN ?_ _ | refine blk_drew ?_ | refine blk_alloc ?_ _)); refine blk_put (cs := #[.int .i64 ((rd_T45 l0_0 x20_2).f0), .int .i64 0, .int .i64 0, .slice none 0 0, .slice none 0 0, .slice none 0 0]) ?_ 1 _ rfl; (with_reducible repeat (first | refine blk_drewN ?_ _ | refine blk_drew ?_ | refine blk_alloc ?_ _)); refine blk_put (cs := #[.int .i64 0, .int .i64 0, .int .i64 0, .slice none 0 0, .slice none 0 0, .slice none 0 0]) ?_ 0 _ rfl; (with_reducible repeat (first | refine blk_drewN ?_ _ | refine blk_drew ?_ | refine blk_alloc ?_ _)); exact BK289.out⟩
               have n2_ : Aside0 (Below w.heap.size w ((((((w33.setCell ⟨gb289, 0, none⟩ (.int .i64 ((rd_T45 l0_0 x20_2).f0))).setCell ⟨gb289, 1, none⟩ (.int .i64 ((rd_T45 l0_0 x20_2).f1))).setCell ⟨gb289, 2, none⟩ (.int .i64 ((rd_T45 l0_0 x20_2).f2))).setCell ⟨gb289, 3, none⟩ (.slice A288_3 ((rd_T45 l0_0 x20_2).f3).length c288_3)).setCell ⟨gb289, 4, none⟩ (.slice A288_4 ((rd_T45 l0_0 x20_2).f4).length c288_4)).setCell ⟨gb289, 5, none⟩ (.slice A288_5 ((rd_T45 l0_0 x20_2).f5).length c288_5))) := ⟨oB⟩
               (try clear BK286)
               (try clear BK289)
               (try clear HB)
               generalize ((((((w33.setCell ⟨gb289, 0, none⟩ (.int .i64 ((rd_T45 l0_0 x20_2).f0))).setCell ⟨gb289, 1, none⟩ (.int .i64 ((rd_T45 l0_0 x20_2).f1))).setCell ⟨gb289, 2, none⟩ (.int .i64 ((rd_T45 l0_0 x20_2).f2))).setCell ⟨gb289, 3, none⟩ (.slice A288_3 ((rd_T45 l0_0 x20_2).f3).length c288_3)).setCell ⟨gb289, 4, none⟩ (.slice A288_4 ((rd_T45 l0_0 x20_2).f4).length c288_4)).setCell ⟨gb289, 5, none⟩ (.slice A288_5 ((rd_T45 l0_0 x20_2).f5).length c288_5)) = w36 at n0_ n1_ n2_ ⊢
               have BK286 := n0_
               have BK289 := n1_
               have HB := n2_
               clear n0_ n1_ n2_
               replace BK286 := Aside0.mk (blk_drew BK286.out)
               replace BK289 := Aside0.mk (blk_drew BK289.out)
               replace HB := Aside0.mk (below_drew1 HB.out)
               have p291 : (0 ≤ ((ji23) : Int)) = True := oT
               have q291 : ((ji23) < (l0_0.length : Int)) = True := oT
               obtain ⟨ad291, A291_3, c291_3, A291_4, c291_4, A291_5, c291_5, e291, hx291_0, hx291_1, hx291_2, hx291_3, hx291_4, hx291_5, hl291_3, hi291_3, hl291_4, hi291_4, hl291_5, hi291_5⟩ := at_T45 HR0_0.out (ji23) oa oa
               have hw291_5 := hx291_5
               have hw291_4 := hx291_4
               have hw291_3 := hx291_3
               have hw291_2 := hx291_2
               have hw291_1 := hx291_1
               have hw291_0 := hx291_0
               obtain rfl : ad288 = ad291 := (by injection e291)
               replace hx291_0 := cB HB hx291_0
               replace hx291_1 := cB HB hx291_1
               replace hx291_2 := cB HB hx291_2
               replace hx291_3 := cB HB hx291_3
               replace hx291_4 := cB HB hx291_4
               replace hx291_5 := cB HB hx291_5
               have HR291_3 := Aside0.mk hi291_3
               have HC291_3 := Aside0.mk hl291_3
               clear hi291_3 hl291_3
               have HR291_4 := Aside0.mk hi291_4
               have HC291_4 := Aside0.mk hl291_4
               clear hi291_4 hl291_4
               have HR291_5 := Aside0.mk hi291_5
               have HC291_5 := Aside0.mk hl291_5
               clear hi291_5 hl291_5
               refine start_ (n := 26) (S := fun w' => w'.cell? ⟨gb289, 0, none⟩ = some (.int .i64 ((rd_T45 l0_0 x20_2).f0)) ∧ w'.cell? ⟨gb289, 1, none⟩ = some (.int .i64 ((rd_T45 l0_0 x20_2).f1)) ∧ w'.cell? ⟨gb289, 2, none⟩ = some (.int .i64 ((rd_T45 l0_0 x20_2).f2)) ∧ w'.cell? ⟨gb289, 3, none⟩ = some (.slice A288_3 ((rd_T45 l0_0 x20_2).f3).length c288_3) ∧ w'.cell? ⟨gb289, 4, none⟩ = some (.slice A288_4 ((rd_T45 l0_0 x20_2).f4).length c288_4) ∧ w'.cell? ⟨gb289, 5, none⟩ = some (.slice A288_5 ((rd_T45 l0_0 x20_2).f5).length c288_5) ∧ w'.cell? ⟨gb286, 0, none⟩ = some (.slice (some ad288) l0_0.length c0_0) ∧ w'.cell? ⟨gb286, 1, none⟩ = some (.int .i64 a0_1) ∧ w'.cell? (ad288.add (((ji23)).toNat * 6)) = some (.int .i64 ((rd_T45 l0_0 (ji23)).f0)) ∧ w'.cell? ⟨(ad288.add (((ji23)).toNat * 6)).block, (ad288.add (((ji23)).toNat * 6)).off + 1, none⟩ = some (.int .i64 ((rd_T45 l0_0 (ji23)).f1)) ∧ w'.cell? ⟨(ad288.add (((ji23)).toNat * 6)).block, (ad288.add (((ji23)).toNat * 6)).off + 2, none⟩ = some (.int .i64 ((rd_T45 l0_0 (ji23)).f2)) ∧ w'.cell? ⟨(ad288.add (((ji23)).toNat * 6)).block, (ad288.add (((ji23)).toNat * 6)).off + 3, none⟩ = some (.slice A291_3 ((rd_T45 l0_0 (ji23)).f3).length c291_3) ∧ w'.cell? ⟨(ad288.add (((ji23)).toNat * 6)).block, (ad288.add (((ji23)).toNat * 6)).off + 4, none⟩ = some (.slice A291_4 ((rd_T45 l0_0 (ji23)).f4).length c291_4) ∧ w'.cell? ⟨(ad288.add (((ji23)).toNat * 6)).block, (ad288.add (((ji23)).toNat * 6)).off + 5, none⟩ = some (.slice A291_5 ((rd_T45 l0_0 (ji23)).f5).length c291_5)) (ds := []) #[false, false, false, false, false, false, false, false, false, false, false, false, false, false, false, false, false, false, false, false, false, false, false, false, false, false] (by kernel_rfl) rfl rfl ⟨(blk_cell BK289.out 0).trans rfl, (blk_cell BK289.out 1).trans rfl, (blk_cell BK289.out 2).trans rfl, (blk_cell BK289.out 3).trans rfl, (blk_cell BK289.out 4).trans rfl, (blk_cell BK289.out 5).trans rfl, (blk_cell BK286.out 0).trans rfl, (blk_cell BK286.out 1).trans rfl, (cB HB hw291_0), (cB HB hw291_1), (cB HB hw291_2), (cB HB hw291_3), (cB HB hw291_4), (cB HB hw291_5)⟩ (fun hHeld => ?_); refine with_tabW impl_TabOk.tab6 impl_TabOk.bits6 (fun HT_ HW_ => ?_)
               generalize w36.drew = w37 at BK286 BK289 HB HR291_3 HR291_4 HR291_5 hx291_0 hx291_1 hx291_2 hx291_3 hx291_4 hx291_5 hHeld ⊢
               refine take_ (i := 0) (N := some 25) (v := ?_) (a' := ?_) #[true, false, false, false, false, false, false, false, false, false, false, false, false, false, false, false, false, false, false, false, false, false, false, false, false, false] rfl rfl (take_ofW HT_.out HW_.out (by kernel_rfl)) (fun _ _ _ h => h) (Or.inl ⟨by rfl, ?_⟩) hHeld ?_ ?_
               rotate_left
               ·rintro w' ⟨s0, s1, s2, s3, s4, s5, s6, s7, s8, s9, s10, s11, s12, s13⟩
                go_simp
                with_reducible rfl
               rotate_left
               ·simp only [Act.put, List.setIfInBounds_toArray, List.set_cons_zero, List.set_cons_succ, i64_w, i32_w]
                rfl
               refine one_ (i := 1) (N := some 26) #[true, true, false, false, false, false, false, false, false, false, false, false, false, false, false, false, false, false, false, false, false, false, false, false, false, false] rfl rfl (one_of HT_.out (by kernel_rfl)) (by decide) (fun K hK => ?_)
               refine gr_ 26 Try.func38 (impl_InodeOk.calls k2 ((rd_T45 l0_0 x20_2).f0) ((rd_T45 l0_0 x20_2).f1) ((rd_T45 l0_0 x20_2).f2) _ _ ((rd_T45 l0_0 x20_2).f3) _ _ ((rd_T45 l0_0 x20_2).f4) _ _ ((rd_T45 l0_0 x20_2).f5) true _ (kC HR288_3) HC288_3.out (kC HR288_4) HC288_4.out (kC HR288_5) HC288_5.out A13.out) ?_
               rintro e w38 ⟨rfl, hb⟩
               refine ⟨_, rfl, ?_⟩
               replace BK286 := kb_ BK286 hb
               replace BK289 := kb_ BK289 hb
               replace HB := Aside0.mk (below_step oB hb)
               refine hK.out _ _ ⟨(blk_cell BK289.out 0).trans rfl, (blk_cell BK289.out 1).trans rfl, (blk_cell BK289.out 2).trans rfl, (blk_cell BK289.out 3).trans rfl, (blk_cell BK289.out 4).trans rfl, (blk_cell BK289.out 5).trans rfl, (blk_cell BK286.out 0).trans rfl, (blk_cell BK286.out 1).trans rfl, (cB HB hw291_0), (cB HB hw291_1), (cB HB hw291_2), (cB HB hw291_3), (cB HB hw291_4), (cB HB hw291_5)⟩ (fun hHeld => ?_)
               clear hK K
               refine norm_ (a' := ?_) ?_ ?_
               rotate_left
               ·show Act.put _ (some 26) _ = _
                simp only [Act.put, List.setIfInBounds_toArray, List.set_cons_zero, List.set_cons_succ, i64_w, i32_w]
                rfl
               refine pure_ (i := 2) (N := some 27) (v := ?_) (a' := ?_) #[true, true, true, false, false, false, false, false, false, false, false, false, false, false, false, false, false, false, false, false, false, false, false, false, false, false] rfl rfl (any_of HT_.out (by kernel_rfl)) (fun _ _ _ h => h) (Or.inl ⟨by rfl, ?_⟩) ?_ ?_
               rotate_left
               ·intro w'
                go_simp
                with_reducible rfl
               rotate_left
               ·simp only [Act.put, List.setIfInBounds_toArray, List.set_cons_zero, List.set_cons_succ, i64_w, i32_w]
                rfl
               refine pure_ (i := 3) (N := some 28) (v := ?_) (a' := ?_) #[true, true, true, true, false, false, false, false, false, false, false, false, false, false, false, false, false, false, false, false, false, false, false, false, false, false] rfl rfl (any_of HT_.out (by kernel_rfl)) (fun _ _ _ h => h) (Or.inl ⟨by rfl, ?_⟩) ?_ ?_
               rotate_left
               ·intro w'
                go_simp
                with_reducible rfl
               rotate_left
               ·simp only [Act.put, List.setIfInBounds_toArray, List.set_cons_zero, List.set_cons_succ, i64_w, i32_w]
                rfl
               refine pure_ (i := 4) (N := some 29) (v := ?_) (a' := ?_) #[true, true, true, true, true, false, false, false, false, false, false, false, false, false, false, false, false, false, false, false, false, false, false, false, false, false] rfl rfl (any_of HT_.out (by kernel_rfl)) (fun _ _ _ h => h) (Or.inl ⟨by rfl, ?_⟩) ?_ ?_
               rotate_left
               ·intro w'
                go_simp
                with_reducible rfl
               rotate_left
               ·simp only [Act.put, List.setIfInBounds_toArray, List.set_cons_zero, List.set_cons_succ, i64_w, i32_w]
                rfl
               refine pure_ (i := 6) (N := some 31) (v := ?_) (a' := ?_) #[true, true, true, true, true, false, true, false, false, false, false, false, false, false, false, false, false, false, false, false, false, false, false, false, false, false] rfl rfl (any_of HT_.out (by kernel_rfl)) (fun _ _ _ h => h) (Or.inl ⟨by rfl, ?_⟩) ?_ ?_
               rotate_left
               ·intro w'
                go_simp
                with_reducible rfl
               rotate_left
               ·simp only [Act.put, List.setIfInBounds_toArray, List.set_cons_zero, List.set_cons_succ, i64_w, i32_w]
                rfl
               refine take_ (i := 5) (N := some 30) (v := ?_) (a' := ?_) #[true, true, true, true, true, true, true, false, false, false, false, false, false, false, false, false, false, false, false, false, false, false, false, false, false, false] rfl rfl (take_ofW HT_.out HW_.out (by kernel_rfl)) (fun _ _ _ h => h) (Or.inl ⟨by rfl, ?_⟩) hHeld ?_ ?_
               rotate_left
               ·rintro w' ⟨s0, s1, s2, s3, s4, s5, s6, s7, s8, s9, s10, s11, s12, s13⟩
                go_simp
                with_reducible rfl
               rotate_left
               ·simp only [Act.put, List.setIfInBounds_toArray, List.set_cons_zero, List.set_cons_succ, i64_w, i32_w]
                rfl
               refine take_ (i := 7) (N := some 32) (v := ?_) (a' := ?_) #[true, true, true, true, true, true, true, true, false, false, false, false, false, false, false, false, false, false, false, false, false, false, false, false, false, false] rfl rfl (take_ofW HT_.out HW_.out (by kernel_rfl)) (fun _ _ _ h => h) (Or.inl ⟨by rfl, ?_⟩) hHeld ?_ ?_
               rotate_left
               ·rintro w' ⟨s0, s1, s2, s3, s4, s5, s6, s7, s8, s9, s10, s11, s12, s13⟩
                go_simp
                with_reducible rfl
               rotate_left
               ·simp only [Act.put, List.setIfInBounds_toArray, List.set_cons_zero, List.set_cons_succ, i64_w, i32_w]
                rfl
               refine pure_ (i := 8) (N := some 33) (v := ?_) (a' := ?_) #[true, true, true, true, true, true, true, true, true, false, false, false, false, false, false, false, false, false, false, false, false, false, false, false, false, false] rfl rfl (any_of HT_.out (by kernel_rfl)) (fun _ _ _ h => h) (Or.inl ⟨by rfl, ?_⟩) ?_ ?_
               rotate_left
               ·intro w'
                go_simp
                with_reducible rfl
               rotate_left
               ·simp only [Act.put, List.setIfInBounds_toArray, List.set_cons_zero, List.set_cons_succ, i64_w, i32_w]
                rfl
               refine pure_ (i := 9) (N := some 34) (v := ?_) (a' := ?_) #[true, true, true, true, true, true, true, true, true, true, false, false, false, false, false, false, false, false, false, false, false, false, false, false, false, false] rfl rfl (any_of HT_.out (by kernel_rfl)) (fun _ _ _ h => h) (Or.inl ⟨by rfl, ?_⟩) ?_ ?_
               rotate_left
               ·intro w'
                go_simp
                with_reducible rfl
               rotate_left
               ·simp only [Act.put, List.setIfInBounds_toArray, List.set_cons_zero, List.set_cons_succ, i64_w, i32_w]
                rfl
               refine pure_ (i := 10) (N := some 35) (v := ?_) (a' := ?_) #[true, true, true, true, true, true, true, true, true, true, true, false, false, false, false, false, false, false, false, false, false, false, false, false, false, false] rfl rfl (any_of HT_.out (by kernel_rfl)) (fun _ _ _ h => h) (Or.inl ⟨by rfl, ?_⟩) ?_ ?_
               rotate_left
               ·intro w'
                go_simp
                with_reducible rfl
               rotate_left
               ·simp only [Act.put, List.setIfInBounds_toArray, List.set_cons_zero, List.set_cons_succ, i64_w, i32_w]
                rfl
               refine pure_ (i := 11) (N := some 36) (v := ?_) (a' := ?_) #[true, true, true, true, true, true, true, true, true, true, true, true, false, false, false, false, false, false, false, false, false, false, false, false, false, false] rfl rfl (any_of HT_.out (by kernel_rfl)) (fun _ _ _ h => h) (Or.inl ⟨by rfl, ?_⟩) ?_ ?_
               rotate_left
               ·intro w'
                go_simp
                with_reducible rfl
               rotate_left
               ·simp only [Act.put, List.setIfInBounds_toArray, List.set_cons_zero, List.set_cons_succ, i64_w, i32_w]
                rfl
               refine pure_ (i := 12) (N := some 37) (v := ?_) (a' := ?_) #[true, true, true, true, true, true, true, true, true, true, true, true, true, false, false, false, false, false, false, false, false, false, false, false, false, false] rfl rfl (any_of HT_.out (by kernel_rfl)) (fun _ _ _ h => h) (Or.inl ⟨by rfl, ?_⟩) ?_ ?_
               rotate_left
               ·intro w'
                go_simp
                with_reducible rfl
               rotate_left
               ·simp only [Act.put, List.setIfInBounds_toArray, List.set_cons_zero, List.set_cons_succ, i64_w, i32_w]
                rfl
               refine pure_ (i := 13) (N := some 38) (v := ?_) (a' := ?_) #[true, true, true, true, true, true, true, true, true, true, true, true, true, true, false, false, false, false, false, false, false, false, false, false, false, false] rfl rfl (any_of HT_.out (by kernel_rfl)) (fun _ _ _ h => h) (Or.inl ⟨by rfl, ?_⟩) ?_ ?_
               rotate_left
               ·intro w'
                go_simp
                with_reducible rfl
               rotate_left
               ·simp only [Act.put, List.setIfInBounds_toArray, List.set_cons_zero, List.set_cons_succ, i64_w, i32_w]
                rfl
               refine pure_ (i := 14) (N := some 39) (v := ?_) (a' := ?_) #[true, true, true, true, true, true, true, true, true, true, true, true, true, true, true, false, false, false, false, false, false, false, false, false, false, false] rfl rfl (any_of HT_.out (by kernel_rfl)) (fun _ _ _ h => h) (Or.inl ⟨by rfl, ?_⟩) ?_ ?_
               rotate_left
               ·intro w'
                go_simp
                with_reducible rfl
               rotate_left
               ·simp only [Act.put, List.setIfInBounds_toArray, List.set_cons_zero, List.set_cons_succ, i64_w, i32_w]
                rfl
               refine pure_ (i := 16) (N := some 41) (v := ?_) (a' := ?_) #[true, true, true, true, true, true, true, true, true, true, true, true, true, true, true, false, true, false, false, false, false, false, false, false, false, false] rfl rfl (any_of HT_.out (by kernel_rfl)) (fun _ _ _ h => h) (Or.inl ⟨by rfl, ?_⟩) ?_ ?_
               rotate_left
               ·intro w'
                go_simp
                with_reducible rfl
               rotate_left
               ·simp only [Act.put, List.setIfInBounds_toArray, List.set_cons_zero, List.set_cons_succ, i64_w, i32_w]
                rfl
               refine pure_ (i := 17) (N := some 42) (v := ?_) (a' := ?_) #[true, true, true, true, true, true, true, true, true, true, true, true, true, true, true, false, true, true, false, false, false, false, false, false, false, false] rfl rfl (any_of HT_.out (by kernel_rfl)) (fun _ _ _ h => h) (Or.inl ⟨by rfl, ?_⟩) ?_ ?_
               rotate_left
               ·intro w'
                go_simp
                with_reducible rfl
               rotate_left
               ·simp only [Act.put, List.setIfInBounds_toArray, List.set_cons_zero, List.set_cons_succ, i64_w, i32_w]
                rfl
               refine pure_ (i := 21) (N := some 46) (v := ?_) (a' := ?_) #[true, true, true, true, true, true, true, true, true, true, true, true, true, true, true, false, true, true, false, false, false, true, false, false, false, false] rfl rfl (any_of HT_.out (by kernel_rfl)) (fun _ _ _ h => h) (Or.inl ⟨by rfl, ?_⟩) ?_ ?_
               rotate_left
               ·intro w'
                go_simp
                with_reducible rfl
               rotate_left
               ·simp only [Act.put, List.setIfInBounds_toArray, List.set_cons_zero, List.set_cons_succ, i64_w, i32_w]
                rfl
               refine take_ (i := 15) (N := some 40) (v := ?_) (a' := ?_) #[true, true, true, true, true, true, true, true, true, true, true, true, true, true, true, true, true, true, false, false, false, true, false, false, false, false] rfl rfl (take_ofW HT_.out HW_.out (by kernel_rfl)) (fun _ _ _ h => h) (Or.inl ⟨by rfl, ?_⟩) hHeld ?_ ?_
               rotate_left
               ·rintro w' ⟨s0, s1, s2, s3, s4, s5, s6, s7, s8, s9, s10, s11, s12, s13⟩
                go_simp
                with_reducible rfl
               rotate_left
               ·simp only [Act.put, List.setIfInBounds_toArray, List.set_cons_zero, List.set_cons_succ, i64_w, i32_w]
                rfl
               refine pure_ (i := 18) (N := some 43) (v := ?_) (a' := ?_) #[true, true, true, true, true, true, true, true, true, true, true, true, true, true, true, true, true, true, true, false, false, true, false, false, false, false] rfl rfl (any_of HT_.out (by kernel_rfl)) (fun _ _ _ h => h) (Or.inl ⟨by rfl, ?_⟩) ?_ ?_
               rotate_left
               ·intro w'
                go_simp
                with_reducible rfl
               rotate_left
               ·simp only [Act.put, List.setIfInBounds_toArray, List.set_cons_zero, List.set_cons_succ, i64_w, i32_w]
                rfl
               refine pure_ (i := 19) (N := some 44) (v := ?_) (a' := ?_) #[true, true, true, true, true, true, true, true, true, true, true, true, true, true, true, true, true, true, true, true, false, true, false, false, false, false] rfl rfl (any_of HT_.out (by kernel_rfl)) (fun _ _ _ h => h) (Or.inl ⟨by rfl, ?_⟩) ?_ ?_
               rotate_left
               ·intro w'
                go_simp
                with_reducible rfl
               rotate_left
               ·simp only [Act.put, List.setIfInBounds_toArray, List.set_cons_zero, List.set_cons_succ, i64_w, i32_w]
                rfl
               refine take_ (i := 20) (N := some 45) (v := ?_) (a' := ?_) #[true, true, true, true, true, true, true, true, true, true, true, true, true, true, true, true, true, true, true, true, true, true, false, false, false, false] rfl rfl (take_ofW HT_.out HW_.out (by kernel_rfl)) (fun _ _ _ h => h) (Or.inl ⟨by rfl, ?_⟩) hHeld ?_ ?_
               rotate_left
               ·rintro w' ⟨s0, s1, s2, s3, s4, s5, s6, s7, s8, s9, s10, s11, s12, s13⟩
                go_simp
                with_reducible rfl
               rotate_left
               ·simp only [Act.put, List.setIfInBounds_toArray, List.set_cons_zero, List.set_cons_succ, i64_w, i32_w]
                rfl
               refine take_ (i := 22) (N := some 47) (v := ?_) (a' := ?_) #[true, true, true, true, true, true, true, true, true, true, true, true, true, true, true, true, true, true, true, true, true, true, true, false, false, false] rfl rfl (take_ofW HT_.out HW_.out (by kernel_rfl)) (fun _ _ _ h => h) (Or.inl ⟨by rfl, ?_⟩) hHeld ?_ ?_
               rotate_left
               ·rintro w' ⟨s0, s1, s2, s3, s4, s5, s6, s7, s8, s9, s10, s11, s12, s13⟩
                go_simp
                with_reducible rfl
               rotate_left
               ·simp only [Act.put, List.setIfInBounds_toArray, List.set_cons_zero, List.set_cons_succ, i64_w, i32_w]
                rfl
               refine pure_ (i := 23) (N := some 48) (v := ?_) (a' := ?_) #[true, true, true, true, true, true, true, true, true, true, true, true, true, true, true, true, true, true, true, true, true, true, true, true, false, false] rfl rfl (any_of HT_.out (by kernel_rfl)) (fun _ _ _ h => h) (Or.inl ⟨by rfl, ?_⟩) ?_ ?_
               rotate_left
               ·intro w'
                go_simp
                with_reducible rfl
               rotate_left
               ·simp only [Act.put, List.setIfInBounds_toArray, List.set_cons_zero, List.set_cons_succ, i64_w, i32_w]
                rfl
               refine pure_ (i := 24) (N := some 49) (v := ?_) (a' := ?_) #[true, true, true, true, true, true, true, true, true, true, true, true, true, true, true, true, true, true, true, true, true, true, true, true, true, false] rfl rfl (any_of HT_.out (by kernel_rfl)) (fun _ _ _ h => h) (Or.inl ⟨by rfl, ?_⟩) ?_ ?_
               rotate_left
               ·intro w'
                go_simp
                with_reducible rfl
               rotate_left
               ·simp only [Act.put, List.setIfInBounds_toArray, List.set_cons_zero, List.set_cons_succ, i64_w, i32_w]
                rfl
               refine pure_ (i := 25) (N := some 50) (v := ?_) (a' := ?_) #[true, true, true, true, true, true, true, true, true, true, true, true, true, true, true, true, true, true, true, true, true, true, true, true, true, true] rfl rfl (any_of HT_.out (by kernel_rfl)) (fun _ _ _ h => h) (Or.inl ⟨by rfl, ?_⟩) ?_ ?_
               rotate_left
               ·intro w'
                go_simp
                with_reducible rfl
               rotate_left
               ·simp only [Act.put, List.setIfInBounds_toArray, List.set_cons_zero, List.set_cons_succ, i64_w, i32_w]
                rfl
               refine done_ (done_of HT_.out (by kernel_rfl)) ?_
               try go_wp2
               go_roundg k2
               case measure => have := HJ1.out; have := HK2.out; omega
               case rel => exact ⟨(wrap64 (x20_2 + 1)), oS, H', ⟨by have := HJ1.out; have := HK2.out; omega⟩, ⟨oF BK286⟩, ⟨oB⟩⟩
             ·cases H
            ·cases H
           ·have H' := Aside0.mk H
            clear H
            have p288 : (0 ≤ (x20_2 : Int)) = True := oT
            have q288 : (x20_2 < (l0_0.length : Int)) = True := oT
            obtain ⟨ad288, A288_3, c288_3, A288_4, c288_4, A288_5, c288_5, e288, hx288_0, hx288_1, hx288_2, hx288_3, hx288_4, hx288_5, hl288_3, hi288_3, hl288_4, hi288_4, hl288_5, hi288_5⟩ := at_T45 HR0_0.out x20_2 oa oa
            cases e288
            replace hx288_0 := cB HB hx288_0
            replace hx288_1 := cB HB hx288_1
            replace hx288_2 := cB HB hx288_2
            replace hx288_3 := cB HB hx288_3
            replace hx288_4 := cB HB hx288_4
            replace hx288_5 := cB HB hx288_5
            have HR288_3 := Aside0.mk hi288_3
            have HC288_3 := Aside0.mk hl288_3
            clear hi288_3 hl288_3
            have HR288_4 := Aside0.mk hi288_4
            have HC288_4 := Aside0.mk hl288_4
            clear hi288_4 hl288_4
            have HR288_5 := Aside0.mk hi288_5
            have HC288_5 := Aside0.mk hl288_5
            clear hi288_5 hl288_5
            try go_wp2_with (first | ((with_reducible refine gate_dst (N := 4) rfl ?_); refine bx_ 4 #[.int .i64 0, .int .i64 0, .int .i64 0, .slice none 0 0, .slice none 0 0, .slice none 0 0] 45 ?_; intro gb289 hg w39 hbox hb; have BK289 := Aside0.mk (hbox); have GW289 := gs_ hg; have GE289 := gs_ hg; have NB286_289 := nl_ hg BK286; have NB289_286 := nr_ hg BK286; replace BK286 := kb_ BK286 hb; replace HB := Aside0.mk (below_step oB hb); clear hb hbox hg; have hnb40 := NB289_286.out; have hnc40 := NB286_289.out; obtain ⟨⟨_, _, _, _, _, _⟩, _, _, _, _, _, _⟩ := z6 BK289))
            have n0_ : Aside0 (((((((w39.setCell ⟨gb289, 0, none⟩ (.int .i64 ((rd_T45 l0_0 x20_2).f0))).setCell ⟨gb289, 1, none⟩ (.int .i64 ((rd_T45 l0_0 x20_2).f1))).setCell ⟨gb289, 2, none⟩ (.int .i64 ((rd_T45 l0_0 x20_2).f2))).setCell ⟨gb289, 3, none⟩ (.slice A288_3 ((rd_T45 l0_0 x20_2).f3).length c288_3)).setCell ⟨gb289, 4, none⟩ (.slice A288_4 ((rd_T45 l0_0 x20_2).f4).length c288_4)).setCell ⟨gb289, 5, none⟩ (.slice A288_5 ((rd_T45 l0_0 x20_2).f5).length c288_5)).heap[gb286]? = some (.cells #[.slice (some ad288) l0_0.length c0_0, .int .i64 a0_1] 30 (0, 0))) := ⟨by (with_reducible repeat (first | refine blk_drewN ?_ _ | refine blk_drew ?_ | refine blk_alloc ?_ _)); refine blk_far ?_ NB286_289.out _; (with_reducible repeat (first | refine blk_drewN ?_ _ | refine blk_drew ?_ | refine blk_alloc ?_ _)); refine blk_far ?_ NB286_289.out _; (with_reducible repeat (first | refine blk_drewN ?_ _ | refine blk_drew ?_ | refine blk_alloc ?_ _)); refine blk_far ?_ NB286_289.out _; (with_reducible repeat (first | refine blk_drewN ?_ _ | refine blk_drew ?_ | refine blk_alloc ?_ _)); refine blk_far ?_ NB286_289.out _; (with_reducible repeat (first | refine blk_drewN ?_ _ | refine blk_drew ?_ | refine blk_alloc ?_ _)); refine blk_far ?_ NB286_289.out _; (with_reducible repeat (first | refine blk_drewN ?_ _ | refine blk_drew ?_ | refine blk_alloc ?_ _)); refine blk_far ?_ NB286_289.out _; (with_reducible repeat (first | refine blk_drewN ?_ _ | refine blk_drew ?_ | refine blk_alloc ?_ _)); exact BK286.out⟩
            have n1_ : Aside0 (((((((w39.setCell ⟨gb289, 0, none⟩ (.int .i64 ((rd_T45 l0_0 x20_2).f0))).setCell ⟨gb289, 1, none⟩ (.int .i64 ((rd_T45 l0_0 x20_2).f1))).setCell ⟨gb289, 2, none⟩ (.int .i64 ((rd_T45 l0_0 x20_2).f2))).setCell ⟨gb289, 3, none⟩ (.slice A288_3 ((rd_T45 l0_0 x20_2).f3).length c288_3)).setCell ⟨gb289, 4, none⟩ (.slice A288_4 ((rd_T45 l0_0 x20_2).f4).length c288_4)).setCell ⟨gb289, 5, none⟩ (.slice A288_5 ((rd_T45 l0_0 x20_2).f5).length c288_5)).heap[gb289]? = some (.cells #[.int .i64 ((rd_T45 l0_0 x20_2).f0), .int .i64 ((rd_T45 l0_0 x20_2).f1), .int .i64 ((rd_T45 l0_0 x20_2).f2), .slice A288_3 ((rd_T45 l0_0 x20_2).f3).length c288_3, .slice A288_4 ((rd_T45 l0_0 x20_2).f4).length c288_4, .slice A288_5 ((rd_T45 l0_0 x20_2).f5).length c288_5] 45 (0, 0))) := ⟨by (with_reducible repeat (first | refine blk_drewN ?_ _ | refine blk_drew ?_ | refine blk_alloc ?_ _)); refine blk_put (cs := #[.int .i64 ((rd_T45 l0_0 x20_2).f0), .int .i64 ((rd_T45 l0_0 x20_2).f1), .int .i64 ((rd_T45 l0_0 x20_2).f2), .slice A288_3 ((rd_T45 l0_0 x20_2).f3).length c288_3, .slice A288_4 ((rd_T45 l0_0 x20_2).f4).length c288_4, .slice none 0 0]) ?_ 5 _ rfl; (with_reducible repeat (first | refine blk_drewN ?_ _ | refine blk_drew ?_ | refine blk_alloc ?_ _)); refine blk_put (cs := #[.int .i64 ((rd_T45 l0_0 x20_2).f0), .int .i64 ((rd_T45 l0_0 x20_2).f1), .int .i64 ((rd_T45 l0_0 x20_2).f2), .slice A288_3 ((rd_T45 l0_0 x20_2).f3).length c288_3, .slice none 0 0, .slice none 0 0]) ?_ 4 _ rfl; (with_reducible repeat (first | refine blk_drewN ?_ _ | refine blk_drew ?_ | refine blk_alloc ?_ _)); refine blk_put (cs := #[.int .i64 ((rd_T45 l0_0 x20_2).f0), .int .i64 ((rd_T45 l0_0 x20_2).f1), .int .i64 ((rd_T45 l0_0 x20_2).f2), .slice none 0 0, .slice none 0 0, .slice none 0 0]) ?_ 3 _ rfl; (with_reducible repeat (first | refine blk_drewN ?_ _ | refine blk_drew ?_ | refine blk_alloc ?_ _)); refine blk_put (cs := #[.int .i64 ((rd_T45 l0_0 x20_2).f0), .int .i64 ((rd_T45 l0_0 x20_2).f1), .int .i64 0, .slice none 0 0, .slice none 0 0, .slice none 0 0]) ?_ 2 _ rfl; (with_reducible repeat (first | refine blk_drewN ?_ _ | refine blk_drew ?_ | refine blk_alloc ?_ _)); refine blk_put (cs := #[.int .i64 ((rd_T45 l0_0 x20_2).f0), .int .i64 0, .int .i64 0, .slice none 0 0, .slice none 0 0, .slice none 0 0]) ?_ 1 _ rfl; (with_reducible repeat (first | refine blk_drewN ?_ _ | refine blk_drew ?_ | refine blk_alloc ?_ _)); refine blk_put (cs := #[.int .i64 0, .int .i64 0, .int .i64 0, .slice none 0 0, .slice none 0 0, .slice none 0 0]) ?_ 0 _ rfl; (with_reducible repeat (first | refine blk_drewN ?_ _ | refine blk_drew ?_ | refine blk_alloc ?_ _)); exact BK289.out⟩
            have n2_ : Aside0 (Below w.heap.size w ((((((w39.setCell ⟨gb289, 0, none⟩ (.int .i64 ((rd_T45 l0_0 x20_2).f0))).setCell ⟨gb289, 1, none⟩ (.int .i64 ((rd_T45 l0_0 x20_2).f1))).setCell ⟨gb289, 2, none⟩ (.int .i64 ((rd_T45 l0_0 x20_2).f2))).setCell ⟨gb289, 3, none⟩ (.slice A288_3 ((rd_T45 l0_0 x20_2).f3).length c288_3)).setCell ⟨gb289, 4, none⟩ (.slice A288_4 ((rd_T45 l0_0 x20_2).f4).length c288_4)).setCell ⟨gb289, 5, none⟩ (.slice A288_5 ((rd_T45 l0_0 x20_2).f5).length c288_5))) := ⟨oB⟩
            (try clear BK286)
            (try clear BK289)
            (try clear HB)
            generalize ((((((w39.setCell ⟨gb289, 0, none⟩ (.int .i64 ((rd_T45 l0_0 x20_2).f0))).setCell ⟨gb289, 1, none⟩ (.int .i64 ((rd_T45 l0_0 x20_2).f1))).setCell ⟨gb289, 2, none⟩ (.int .i64 ((rd_T45 l0_0 x20_2).f2))).setCell ⟨gb289, 3, none⟩ (.slice A288_3 ((rd_T45 l0_0 x20_2).f3).length c288_3)).setCell ⟨gb289, 4, none⟩ (.slice A288_4 ((rd_T45 l0_0 x20_2).f4).length c288_4)).setCell ⟨gb289, 5, none⟩ (.slice A288_5 ((rd_T45 l0_0 x20_2).f5).length c288_5)) = w42 at n0_ n1_ n2_ ⊢
            have BK286 := n0_
            have BK289 := n1_
            have HB := n2_
            clear n0_ n1_ n2_
            replace BK286 := Aside0.mk (blk_drew BK286.out)
            replace BK289 := Aside0.mk (blk_drew BK289.out)
            replace HB := Aside0.mk (below_drew1 HB.out)
            refine start_ (n := 26) (S := fun w' => w'.cell? ⟨gb289, 0, none⟩ = some (.int .i64 ((rd_T45 l0_0 x20_2).f0)) ∧ w'.cell? ⟨gb289, 1, none⟩ = some (.int .i64 ((rd_T45 l0_0 x20_2).f1)) ∧ w'.cell? ⟨gb289, 2, none⟩ = some (.int .i64 ((rd_T45 l0_0 x20_2).f2)) ∧ w'.cell? ⟨gb289, 3, none⟩ = some (.slice A288_3 ((rd_T45 l0_0 x20_2).f3).length c288_3) ∧ w'.cell? ⟨gb289, 4, none⟩ = some (.slice A288_4 ((rd_T45 l0_0 x20_2).f4).length c288_4) ∧ w'.cell? ⟨gb289, 5, none⟩ = some (.slice A288_5 ((rd_T45 l0_0 x20_2).f5).length c288_5) ∧ w'.cell? ⟨gb286, 0, none⟩ = some (.slice (some ad288) l0_0.length c0_0) ∧ w'.cell? ⟨gb286, 1, none⟩ = some (.int .i64 a0_1)) (ds := []) #[false, false, false, false, false, false, false, false, false, false, false, false, false, false, false, false, false, false, false, false, false, false, false, false, false, false] (by kernel_rfl) rfl rfl oH (fun hHeld => ?_); refine with_tabW impl_TabOk.tab6 impl_TabOk.bits6 (fun HT_ HW_ => ?_)
            generalize w42.drew = w43 at BK286 BK289 HB hHeld ⊢
            refine take_ (i := 0) (N := some 25) (v := ?_) (a' := ?_) #[true, false, false, false, false, false, false, false, false, false, false, false, false, false, false, false, false, false, false, false, false, false, false, false, false, false] rfl rfl (take_ofW HT_.out HW_.out (by kernel_rfl)) (fun _ _ _ h => h) (Or.inl ⟨by rfl, ?_⟩) hHeld ?_ ?_
            rotate_left
            ·rintro w' ⟨s0, s1, s2, s3, s4, s5, s6, s7⟩
             go_simp
             with_reducible rfl
            rotate_left
            ·simp only [Act.put, List.setIfInBounds_toArray, List.set_cons_zero, List.set_cons_succ, i64_w, i32_w]
             rfl
            refine one_ (i := 1) (N := some 26) #[true, true, false, false, false, false, false, false, false, false, false, false, false, false, false, false, false, false, false, false, false, false, false, false, false, false] rfl rfl (one_of HT_.out (by kernel_rfl)) (by decide) (fun K hK => ?_)
            refine gr_ 26 Try.func38 (impl_InodeOk.calls k2 ((rd_T45 l0_0 x20_2).f0) ((rd_T45 l0_0 x20_2).f1) ((rd_T45 l0_0 x20_2).f2) _ _ ((rd_T45 l0_0 x20_2).f3) _ _ ((rd_T45 l0_0 x20_2).f4) _ _ ((rd_T45 l0_0 x20_2).f5) true _ (kC HR288_3) HC288_3.out (kC HR288_4) HC288_4.out (kC HR288_5) HC288_5.out A13.out) ?_
            rintro e w44 ⟨rfl, hb⟩
            refine ⟨_, rfl, ?_⟩
            replace BK286 := kb_ BK286 hb
            replace BK289 := kb_ BK289 hb
            replace HB := Aside0.mk (below_step oB hb)
            refine hK.out _ _ oH (fun hHeld => ?_)
            clear hK K
            refine norm_ (a' := ?_) ?_ ?_
            rotate_left
            ·show Act.put _ (some 26) _ = _
             simp only [Act.put, List.setIfInBounds_toArray, List.set_cons_zero, List.set_cons_succ, i64_w, i32_w]
             rfl
            refine pure_ (i := 2) (N := some 27) (v := ?_) (a' := ?_) #[true, true, true, false, false, false, false, false, false, false, false, false, false, false, false, false, false, false, false, false, false, false, false, false, false, false] rfl rfl (any_of HT_.out (by kernel_rfl)) (fun _ _ _ h => h) (Or.inl ⟨by rfl, ?_⟩) ?_ ?_
            rotate_left
            ·intro w'
             go_simp
             with_reducible rfl
            rotate_left
            ·simp only [Act.put, List.setIfInBounds_toArray, List.set_cons_zero, List.set_cons_succ, i64_w, i32_w]
             rfl
            refine pure_ (i := 3) (N := some 28) (v := ?_) (a' := ?_) #[true, true, true, true, false, false, false, false, false, false, false, false, false, false, false, false, false, false, false, false, false, false, false, false, false, false] rfl rfl (any_of HT_.out (by kernel_rfl)) (fun _ _ _ h => h) (Or.inl ⟨by rfl, ?_⟩) ?_ ?_
            rotate_left
            ·intro w'
             go_simp
             with_reducible rfl
            rotate_left
            ·simp only [Act.put, List.setIfInBounds_toArray, List.set_cons_zero, List.set_cons_succ, i64_w, i32_w]
             rfl
            refine pure_ (i := 4) (N := some 29) (v := ?_) (a' := ?_) #[true, true, true, true, true, false, false, false, false, false, false, false, false, false, false, false, false, false, false, false, false, false, false, false, false, false] rfl rfl (any_of HT_.out (by kernel_rfl)) (fun _ _ _ h => h) (Or.inl ⟨by rfl, ?_⟩) ?_ ?_
            rotate_left
            ·intro w'
             go_simp
             with_reducible rfl
            rotate_left
            ·simp only [Act.put, List.setIfInBounds_toArray, List.set_cons_zero, List.set_cons_succ, i64_w, i32_w]
             rfl
            refine pure_ (i := 6) (N := some 31) (v := ?_) (a' := ?_) #[true, true, true, true, true, false, true, false, false, false, false, false, false, false, false, false, false, false, false, false, false, false, false, false, false, false] rfl rfl (any_of HT_.out (by kernel_rfl)) (fun _ _ _ h => h) (Or.inl ⟨by rfl, ?_⟩) ?_ ?_
            rotate_left
            ·intro w'
             go_simp
             with_reducible rfl
            rotate_left
            ·simp only [Act.put, List.setIfInBounds_toArray, List.set_cons_zero, List.set_cons_succ, i64_w, i32_w]
             rfl
            refine take_ (i := 5) (N := some 30) (v := ?_) (a' := ?_) #[true, true, true, true, true, true, true, false, false, false, false, false, false, false, false, false, false, false, false, false, false, false, false, false, false, false] rfl rfl (take_ofW HT_.out HW_.out (by kernel_rfl)) (fun _ _ _ h => h) (Or.inl ⟨by rfl, ?_⟩) hHeld ?_ ?_
            rotate_left
            ·rintro w' ⟨s0, s1, s2, s3, s4, s5, s6, s7⟩
             go_simp
             with_reducible rfl
            rotate_left
            ·simp only [Act.put, List.setIfInBounds_toArray, List.set_cons_zero, List.set_cons_succ, i64_w, i32_w]
             rfl
            refine take_ (i := 7) (N := some 32) (v := ?_) (a' := ?_) #[true, true, true, true, true, true, true, true, false, false, false, false, false, false, false, false, false, false, false, false, false, false, false, false, false, false] rfl rfl (take_ofW HT_.out HW_.out (by kernel_rfl)) (fun _ _ _ h => h) (Or.inl ⟨by rfl, ?_⟩) hHeld ?_ ?_
            rotate_left
            ·rintro w' ⟨s0, s1, s2, s3, s4, s5, s6, s7⟩
             go_simp
             with_reducible rfl
            rotate_left
            ·simp only [Act.put, List.setIfInBounds_toArray, List.set_cons_zero, List.set_cons_succ, i64_w, i32_w]
             rfl
            refine pure_ (i := 8) (N := some 33) (v := ?_) (a' := ?_) #[true, true, true, true, true, true, true, true, true, false, false, false, false, false, false, false, false, false, false, false, false, false, false, false, false, false] rfl rfl (any_of HT_.out (by kernel_rfl)) (fun _ _ _ h => h) (Or.inl ⟨by rfl, ?_⟩) ?_ ?_
            rotate_left
            ·intro w'
             go_simp
             with_reducible rfl
            rotate_left
            ·simp only [Act.put, List.setIfInBounds_toArray, List.set_cons_zero, List.set_cons_succ, i64_w, i32_w]
             rfl
            refine pure_ (i := 9) (N := some 34) (v := ?_) (a' := ?_) #[true, true, true, true, true, true, true, true, true, true, false, false, false, false, false, false, false, false, false, false, false, false, false, false, false, false] rfl rfl (any_of HT_.out (by kernel_rfl)) (fun _ _ _ h => h) (Or.inl ⟨by rfl, ?_⟩) ?_ ?_
            rotate_left
            ·intro w'
             go_simp
             with_reducible rfl
            rotate_left
            ·simp only [Act.put, List.setIfInBounds_toArray, List.set_cons_zero, List.set_cons_succ, i64_w, i32_w]
             rfl
            refine pure_ (i := 10) (N := some 35) (v := ?_) (a' := ?_) #[true, true, true, true, true, true, true, true, true, true, true, false, false, false, false, false, false, false, false, false, false, false, false, false, false, false] rfl rfl (any_of HT_.out (by kernel_rfl)) (fun _ _ _ h => h) (Or.inl ⟨by rfl, ?_⟩) ?_ ?_
            rotate_left
            ·intro w'
             go_simp
             with_reducible rfl
            rotate_left
            ·simp only [Act.put, List.setIfInBounds_toArray, List.set_cons_zero, List.set_cons_succ, i64_w, i32_w]
             rfl
            refine pure_ (i := 11) (N := some 36) (v := ?_) (a' := ?_) #[true, true, true, true, true, true, true, true, true, true, true, true, false, false, false, false, false, false, false, false, false, false, false, false, false, false] rfl rfl (any_of HT_.out (by kernel_rfl)) (fun _ _ _ h => h) (Or.inl ⟨by rfl, ?_⟩) ?_ ?_
            rotate_left
            ·intro w'
             go_simp
             with_reducible rfl
            rotate_left
            ·simp only [Act.put, List.setIfInBounds_toArray, List.set_cons_zero, List.set_cons_succ, i64_w, i32_w]
             rfl
            refine pure_ (i := 12) (N := some 37) (v := ?_) (a' := ?_) #[true, true, true, true, true, true, true, true, true, true, true, true, true, false, false, false, false, false, false, false, false, false, false, false, false, false] rfl rfl (any_of HT_.out (by kernel_rfl)) (fun _ _ _ h => h) (Or.inl ⟨by rfl, ?_⟩) ?_ ?_
            rotate_left
            ·intro w'
             go_simp
             with_reducible rfl
            rotate_left
            ·simp only [Act.put, List.setIfInBounds_toArray, List.set_cons_zero, List.set_cons_succ, i64_w, i32_w]
             rfl
            refine pure_ (i := 13) (N := some 38) (v := ?_) (a' := ?_) #[true, true, true, true, true, true, true, true, true, true, true, true, true, true, false, false, false, false, false, false, false, false, false, false, false, false] rfl rfl (any_of HT_.out (by kernel_rfl)) (fun _ _ _ h => h) (Or.inl ⟨by rfl, ?_⟩) ?_ ?_
            rotate_left
            ·intro w'
             go_simp
             with_reducible rfl
            rotate_left
            ·simp only [Act.put, List.setIfInBounds_toArray, List.set_cons_zero, List.set_cons_succ, i64_w, i32_w]
             rfl
            refine pure_ (i := 14) (N := some 39) (v := undef) (a' := ?_) #[true, true, true, true, true, true, true, true, true, true, true, true, true, true, true, false, false, false, false, false, false, false, false, false, false, false] rfl rfl (any_of HT_.out (by kernel_rfl)) (fun _ _ _ h => h) (Or.inr ⟨by rfl, rfl⟩) ?_ ?_
            rotate_left
            ·simp only [Act.put, List.setIfInBounds_toArray, List.set_cons_zero, List.set_cons_succ, i64_w, i32_w]
             rfl
            refine pure_ (i := 15) (N := some 40) (v := undef) (a' := ?_) #[true, true, true, true, true, true, true, true, true, true, true, true, true, true, true, true, false, false, false, false, false, false, false, false, false, false] rfl rfl (any_of HT_.out (by kernel_rfl)) (fun _ _ _ h => h) (Or.inr ⟨by rfl, rfl⟩) ?_ ?_
            rotate_left
            ·simp only [Act.put, List.setIfInBounds_toArray, List.set_cons_zero, List.set_cons_succ, i64_w, i32_w]
             rfl
            refine pure_ (i := 16) (N := some 41) (v := undef) (a' := ?_) #[true, true, true, true, true, true, true, true, true, true, true, true, true, true, true, true, true, false, false, false, false, false, false, false, false, false] rfl rfl (any_of HT_.out (by kernel_rfl)) (fun _ _ _ h => h) (Or.inr ⟨by rfl, rfl⟩) ?_ ?_
            rotate_left
            ·simp only [Act.put, List.setIfInBounds_toArray, List.set_cons_zero, List.set_cons_succ, i64_w, i32_w]
             rfl
            refine pure_ (i := 17) (N := some 42) (v := undef) (a' := ?_) #[true, true, true, true, true, true, true, true, true, true, true, true, true, true, true, true, true, true, false, false, false, false, false, false, false, false] rfl rfl (any_of HT_.out (by kernel_rfl)) (fun _ _ _ h => h) (Or.inr ⟨by rfl, rfl⟩) ?_ ?_
            rotate_left
            ·simp only [Act.put, List.setIfInBounds_toArray, List.set_cons_zero, List.set_cons_succ, i64_w, i32_w]
             rfl
            refine pure_ (i := 18) (N := some 43) (v := undef) (a' := ?_) #[true, true, true, true, true, true, true, true, true, true, true, true, true, true, true, true, true, true, true, false, false, false, false, false, false, false] rfl rfl (any_of HT_.out (by kernel_rfl)) (fun _ _ _ h => h) (Or.inr ⟨by rfl, rfl⟩) ?_ ?_
            rotate_left
            ·simp only [Act.put, List.setIfInBounds_toArray, List.set_cons_zero, List.set_cons_succ, i64_w, i32_w]
             rfl
            refine pure_ (i := 19) (N := some 44) (v := undef) (a' := ?_) #[true, true, true, true, true, true, true, true, true, true, true, true, true, true, true, true, true, true, true, true, false, false, false, false, false, false] rfl rfl (any_of HT_.out (by kernel_rfl)) (fun _ _ _ h => h) (Or.inr ⟨by rfl, rfl⟩) ?_ ?_
            rotate_left
            ·simp only [Act.put, List.setIfInBounds_toArray, List.set_cons_zero, List.set_cons_succ, i64_w, i32_w]
             rfl
            refine pure_ (i := 20) (N := some 45) (v := undef) (a' := ?_) #[true, true, true, true, true, true, true, true, true, true, true, true, true, true, true, true, true, true, true, true, true, false, false, false, false, false] rfl rfl (any_of HT_.out (by kernel_rfl)) (fun _ _ _ h => h) (Or.inr ⟨by rfl, rfl⟩) ?_ ?_
            rotate_left
            ·simp only [Act.put, List.setIfInBounds_toArray, List.set_cons_zero, List.set_cons_succ, i64_w, i32_w]
             rfl
            refine pure_ (i := 21) (N := some 46) (v := undef) (a' := ?_) #[true, true, true, true, true, true, true, true, true, true, true, true, true, true, true, true, true, true, true, true, true, true, false, false, false, false] rfl rfl (any_of HT_.out (by kernel_rfl)) (fun _ _ _ h => h) (Or.inr ⟨by rfl, rfl⟩) ?_ ?_
            rotate_left
            ·simp only [Act.put, List.setIfInBounds_toArray, List.set_cons_zero, List.set_cons_succ, i64_w, i32_w]
             rfl
            refine pure_ (i := 22) (N := some 47) (v := undef) (a' := ?_) #[true, true, true, true, true, true, true, true, true, true, true, true, true, true, true, true, true, true, true, true, true, true, true, false, false, false] rfl rfl (any_of HT_.out (by kernel_rfl)) (fun _ _ _ h => h) (Or.inr ⟨by rfl, rfl⟩) ?_ ?_
            rotate_left
            ·simp only [Act.put, List.setIfInBounds_toArray, List.set_cons_zero, List.set_cons_succ, i64_w, i32_w]
             rfl
            refine pure_ (i := 23) (N := some 48) (v := undef) (a' := ?_) #[true, true, true, true, true, true, true, true, true, true, true, true, true, true, true, true, true, true, true, true, true, true, true, true, false, false] rfl rfl (any_of HT_.out (by kernel_rfl)) (fun _ _ _ h => h) (Or.inr ⟨by rfl, rfl⟩) ?_ ?_
            rotate_left
            ·simp only [Act.put, List.setIfInBounds_toArray, List.set_cons_zero, List.set_cons_succ, i64_w, i32_w]
             rfl
            refine pure_ (i := 24) (N := some 49) (v := ?_) (a' := ?_) #[true, true, true, true, true, true, true, true, true, true, true, true, true, true, true, true, true, true, true, true, true, true, true, true, true, false] rfl rfl (any_of HT_.out (by kernel_rfl)) (fun _ _ _ h => h) (Or.inl ⟨by rfl, ?_⟩) ?_ ?_
            rotate_left
            ·intro w'
             go_simp
             with_reducible rfl
            rotate_left
            ·simp only [Act.put, List.setIfInBounds_toArray, List.set_cons_zero, List.set_cons_succ, i64_w, i32_w]
             rfl
            refine pure_ (i := 25) (N := some 50) (v := ?_) (a' := ?_) #[true, true, true, true, true, true, true, true, true, true, true, true, true, true, true, true, true, true, true, true, true, true, true, true, true, true] rfl rfl (any_of HT_.out (by kernel_rfl)) (fun _ _ _ h => h) (Or.inl ⟨by rfl, ?_⟩) ?_ ?_
            rotate_left
            ·intro w'
             go_simp
             with_reducible rfl
            rotate_left
            ·simp only [Act.put, List.setIfInBounds_toArray, List.set_cons_zero, List.set_cons_succ, i64_w, i32_w]
             rfl
            refine done_ (done_of HT_.out (by kernel_rfl)) ?_
            try go_wp2
            go_roundg k2
            case measure => have := HJ1.out; have := HK2.out; omega
            case rel => exact ⟨(wrap64 (x20_2 + 1)), oS, H', ⟨by have := HJ1.out; have := HK2.out; omega⟩, ⟨oF BK286⟩, ⟨oB⟩⟩
         ·obtain rfl := Option.some.inj H
          have p288 : (0 ≤ (x20_2 : Int)) = True := oT
          have q288 : (x20_2 < (l0_0.length : Int)) = True := oT
          obtain ⟨ad288, A288_3, c288_3, A288_4, c288_4, A288_5, c288_5, e288, hx288_0, hx288_1, hx288_2, hx288_3, hx288_4, hx288_5, hl288_3, hi288_3, hl288_4, hi288_4, hl288_5, hi288_5⟩ := at_T45 HR0_0.out x20_2 oa oa
          cases e288
          replace hx288_0 := cB HB hx288_0
          replace hx288_1 := cB HB hx288_1
          replace hx288_2 := cB HB hx288_2
          replace hx288_3 := cB HB hx288_3
          replace hx288_4 := cB HB hx288_4
          replace hx288_5 := cB HB hx288_5
          have HR288_3 := Aside0.mk hi288_3
          have HC288_3 := Aside0.mk hl288_3
          clear hi288_3 hl288_3
          have HR288_4 := Aside0.mk hi288_4
          have HC288_4 := Aside0.mk hl288_4
          clear hi288_4 hl288_4
          have HR288_5 := Aside0.mk hi288_5
          have HC288_5 := Aside0.mk hl288_5
          clear hi288_5 hl288_5
          try go_wp2_with (first | ((with_reducible refine gate_dst (N := 4) rfl ?_); refine bx_ 4 #[.int .i64 0, .int .i64 0, .int .i64 0, .slice none 0 0, .slice none 0 0, .slice none 0 0] 45 ?_; intro gb289 hg w45 hbox hb; have BK289 := Aside0.mk (hbox); have GW289 := gs_ hg; have GE289 := gs_ hg; have NB286_289 := nl_ hg BK286; have NB289_286 := nr_ hg BK286; replace BK286 := kb_ BK286 hb; replace HB := Aside0.mk (below_step oB hb); clear hb hbox hg; have hnb46 := NB289_286.out; have hnc46 := NB286_289.out; obtain ⟨⟨_, _, _, _, _, _⟩, _, _, _, _, _, _⟩ := z6 BK289))
          have n0_ : Aside0 (((((((w45.setCell ⟨gb289, 0, none⟩ (.int .i64 ((rd_T45 l0_0 x20_2).f0))).setCell ⟨gb289, 1, none⟩ (.int .i64 ((rd_T45 l0_0 x20_2).f1))).setCell ⟨gb289, 2, none⟩ (.int .i64 ((rd_T45 l0_0 x20_2).f2))).setCell ⟨gb289, 3, none⟩ (.slice A288_3 ((rd_T45 l0_0 x20_2).f3).length c288_3)).setCell ⟨gb289, 4, none⟩ (.slice A288_4 ((rd_T45 l0_0 x20_2).f4).length c288_4)).setCell ⟨gb289, 5, none⟩ (.slice A288_5 ((rd_T45 l0_0 x20_2).f5).length c288_5)).heap[gb286]? = some (.cells #[.slice (some ad288) l0_0.length c0_0, .int .i64 a0_1] 30 (0, 0))) := ⟨by (with_reducible repeat (first | refine blk_drewN ?_ _ | refine blk_drew ?_ | refine blk_alloc ?_ _)); refine blk_far ?_ NB286_289.out _; (with_reducible repeat (first | refine blk_drewN ?_ _ | refine blk_drew ?_ | refine blk_alloc ?_ _)); refine blk_far ?_ NB286_289.out _; (with_reducible repeat (first | refine blk_drewN ?_ _ | refine blk_drew ?_ | refine blk_alloc ?_ _)); refine blk_far ?_ NB286_289.out _; (with_reducible repeat (first | refine blk_drewN ?_ _ | refine blk_drew ?_ | refine blk_alloc ?_ _)); refine blk_far ?_ NB286_289.out _; (with_reducible repeat (first | refine blk_drewN ?_ _ | refine blk_drew ?_ | refine blk_alloc ?_ _)); refine blk_far ?_ NB286_289.out _; (with_reducible repeat (first | refine blk_drewN ?_ _ | refine blk_drew ?_ | refine blk_alloc ?_ _)); refine blk_far ?_ NB286_289.out _; (with_reducible repeat (first | refine blk_drewN ?_ _ | refine blk_drew ?_ | refine blk_alloc ?_ _)); exact BK286.out⟩
          have n1_ : Aside0 (((((((w45.setCell ⟨gb289, 0, none⟩ (.int .i64 ((rd_T45 l0_0 x20_2).f0))).setCell ⟨gb289, 1, none⟩ (.int .i64 ((rd_T45 l0_0 x20_2).f1))).setCell ⟨gb289, 2, none⟩ (.int .i64 ((rd_T45 l0_0 x20_2).f2))).setCell ⟨gb289, 3, none⟩ (.slice A288_3 ((rd_T45 l0_0 x20_2).f3).length c288_3)).setCell ⟨gb289, 4, none⟩ (.slice A288_4 ((rd_T45 l0_0 x20_2).f4).length c288_4)).setCell ⟨gb289, 5, none⟩ (.slice A288_5 ((rd_T45 l0_0 x20_2).f5).length c288_5)).heap[gb289]? = some (.cells #[.int .i64 ((rd_T45 l0_0 x20_2).f0), .int .i64 ((rd_T45 l0_0 x20_2).f1), .int .i64 ((rd_T45 l0_0 x20_2).f2), .slice A288_3 ((rd_T45 l0_0 x20_2).f3).length c288_3, .slice A288_4 ((rd_T45 l0_0 x20_2).f4).length c288_4, .slice A288_5 ((rd_T45 l0_0 x20_2).f5).length c288_5] 45 (0, 0))) := ⟨by (with_reducible repeat (first | refine blk_drewN ?_ _ | refine blk_drew ?_ | refine blk_alloc ?_ _)); refine blk_put (cs := #[.int .i64 ((rd_T45 l0_0 x20_2).f0), .int .i64 ((rd_T45 l0_0 x20_2).f1), .int .i64 ((rd_T45 l0_0 x20_2).f2), .slice A288_3 ((rd_T45 l0_0 x20_2).f3).length c288_3, .slice A288_4 ((rd_T45 l0_0 x20_2).f4).length c288_4, .slice none 0 0]) ?_ 5 _ rfl; (with_reducible repeat (first | refine blk_drewN ?_ _ | refine blk_drew ?_ | refine blk_alloc ?_ _)); refine blk_put (cs := #[.int .i64 ((rd_T45 l0_0 x20_2).f0), .int .i64 ((rd_T45 l0_0 x20_2).f1), .int .i64 ((rd_T45 l0_0 x20_2).f2), .slice A288_3 ((rd_T45 l0_0 x20_2).f3).length c288_3, .slice none 0 0, .slice none 0 0]) ?_ 4 _ rfl; (with_reducible repeat (first | refine blk_drewN ?_ _ | refine blk_drew ?_ | refine blk_alloc ?_ _)); refine blk_put (cs := #[.int .i64 ((rd_T45 l0_0 x20_2).f0), .int .i64 ((rd_T45 l0_0 x20_2).f1), .int .i64 ((rd_T45 l0_0 x20_2).f2), .slice none 0 0, .slice none 0 0, .slice none 0 0]) ?_ 3 _ rfl; (with_reducible repeat (first | refine blk_drewN ?_ _ | refine blk_drew ?_ | refine blk_alloc ?_ _)); refine blk_put (cs := #[.int .i64 ((rd_T45 l0_0 x20_2).f0), .int .i64 ((rd_T45 l0_0 x20_2).f1), .int .i64 0, .slice none 0 0, .slice none 0 0, .slice none 0 0]) ?_ 2 _ rfl; (with_reducible repeat (first | refine blk_drewN ?_ _ | refine blk_drew ?_ | refine blk_alloc ?_ _)); refine blk_put (cs := #[.int .i64 ((rd_T45 l0_0 x20_2).f0), .int .i64 0, .int .i64 0, .slice none 0 0, .slice none 0 0, .slice none 0 0]) ?_ 1 _ rfl; (with_reducible repeat (first | refine blk_drewN ?_ _ | refine blk_drew ?_ | refine blk_alloc ?_ _)); refine blk_put (cs := #[.int .i64 0, .int .i64 0, .int .i64 0, .slice none 0 0, .slice none 0 0, .slice none 0 0]) ?_ 0 _ rfl; (with_reducible repeat (first | refine blk_drewN ?_ _ | refine blk_drew ?_ | refine blk_alloc ?_ _)); exact BK289.out⟩
          have n2_ : Aside0 (Below w.heap.size w ((((((w45.setCell ⟨gb289, 0, none⟩ (.int .i64 ((rd_T45 l0_0 x20_2).f0))).setCell ⟨gb289, 1, none⟩ (.int .i64 ((rd_T45 l0_0 x20_2).f1))).setCell ⟨gb289, 2, none⟩ (.int .i64 ((rd_T45 l0_0 x20_2).f2))).setCell ⟨gb289, 3, none⟩ (.slice A288_3 ((rd_T45 l0_0 x20_2).f3).length c288_3)).setCell ⟨gb289, 4, none⟩ (.slice A288_4 ((rd_T45 l0_0 x20_2).f4).length c288_4)).setCell ⟨gb289, 5, none⟩ (.slice A288_5 ((rd_T45 l0_0 x20_2).f5).length c288_5))) := ⟨oB⟩
          (try clear BK286)
          (try clear BK289)
          (try clear HB)
          generalize ((((((w45.setCell ⟨gb289, 0, none⟩ (.int .i64 ((rd_T45 l0_0 x20_2).f0))).setCell ⟨gb289, 1, none⟩ (.int .i64 ((rd_T45 l0_0 x20_2).f1))).setCell ⟨gb289, 2, none⟩ (.int .i64 ((rd_T45 l0_0 x20_2).f2))).setCell ⟨gb289, 3, none⟩ (.slice A288_3 ((rd_T45 l0_0 x20_2).f3).length c288_3)).setCell ⟨gb289, 4, none⟩ (.slice A288_4 ((rd_T45 l0_0 x20_2).f4).length c288_4)).setCell ⟨gb289, 5, none⟩ (.slice A288_5 ((rd_T45 l0_0 x20_2).f5).length c288_5)) = w48 at n0_ n1_ n2_ ⊢
          have BK286 := n0_
          have BK289 := n1_
          have HB := n2_
          clear n0_ n1_ n2_
          replace BK286 := Aside0.mk (blk_drew BK286.out)
          replace BK289 := Aside0.mk (blk_drew BK289.out)
          replace HB := Aside0.mk (below_drew1 HB.out)
          refine start_ (n := 26) (S := fun w' => w'.cell? ⟨gb289, 0, none⟩ = some (.int .i64 ((rd_T45 l0_0 x20_2).f0)) ∧ w'.cell? ⟨gb289, 1, none⟩ = some (.int .i64 ((rd_T45 l0_0 x20_2).f1)) ∧ w'.cell? ⟨gb289, 2, none⟩ = some (.int .i64 ((rd_T45 l0_0 x20_2).f2)) ∧ w'.cell? ⟨gb289, 3, none⟩ = some (.slice A288_3 ((rd_T45 l0_0 x20_2).f3).length c288_3) ∧ w'.cell? ⟨gb289, 4, none⟩ = some (.slice A288_4 ((rd_T45 l0_0 x20_2).f4).length c288_4) ∧ w'.cell? ⟨gb289, 5, none⟩ = some (.slice A288_5 ((rd_T45 l0_0 x20_2).f5).length c288_5)) (ds := []) #[false, false, false, false, false, false, false, false, false, false, false, false, false, false, false, false, false, false, false, false, false, false, false, false, false, false] (by kernel_rfl) rfl rfl oH (fun hHeld => ?_); refine with_tabW impl_TabOk.tab6 impl_TabOk.bits6 (fun HT_ HW_ => ?_)
          generalize w48.drew = w49 at BK286 BK289 HB hHeld ⊢
          refine take_ (i := 0) (N := some 25) (v := ?_) (a' := ?_) #[true, false, false, false, false, false, false, false, false, false, false, false, false, false, false, false, false, false, false, false, false, false, false, false, false, false] rfl rfl (take_ofW HT_.out HW_.out (by kernel_rfl)) (fun _ _ _ h => h) (Or.inl ⟨by rfl, ?_⟩) hHeld ?_ ?_
          rotate_left
          ·rintro w' ⟨s0, s1, s2, s3, s4, s5⟩
           go_simp
           with_reducible rfl
          rotate_left
          ·simp only [Act.put, List.setIfInBounds_toArray, List.set_cons_zero, List.set_cons_succ, i64_w, i32_w]
           rfl
          refine one_ (i := 1) (N := some 26) #[true, true, false, false, false, false, false, false, false, false, false, false, false, false, false, false, false, false, false, false, false, false, false, false, false, false] rfl rfl (one_of HT_.out (by kernel_rfl)) (by decide) (fun K hK => ?_)
          refine gr_ 26 Try.func38 (impl_InodeOk.calls k2 ((rd_T45 l0_0 x20_2).f0) ((rd_T45 l0_0 x20_2).f1) ((rd_T45 l0_0 x20_2).f2) _ _ ((rd_T45 l0_0 x20_2).f3) _ _ ((rd_T45 l0_0 x20_2).f4) _ _ ((rd_T45 l0_0 x20_2).f5) false _ (kC HR288_3) HC288_3.out (kC HR288_4) HC288_4.out (kC HR288_5) HC288_5.out A13.out) ?_
          rintro e w50 ⟨rfl, hb⟩
          refine ⟨_, rfl, ?_⟩
          replace BK286 := kb_ BK286 hb
          replace BK289 := kb_ BK289 hb
          replace HB := Aside0.mk (below_step oB hb)
          refine hK.out _ _ oH (fun hHeld => ?_)
          clear hK K
          refine norm_ (a' := ?_) ?_ ?_
          rotate_left
          ·show Act.put _ (some 26) _ = _
           simp only [Act.put, List.setIfInBounds_toArray, List.set_cons_zero, List.set_cons_succ, i64_w, i32_w]
           rfl
          refine pure_ (i := 2) (N := some 27) (v := ?_) (a' := ?_) #[true, true, true, false, false, false, false, false, false, false, false, false, false, false, false, false, false, false, false, false, false, false, false, false, false, false] rfl rfl (any_of HT_.out (by kernel_rfl)) (fun _ _ _ h => h) (Or.inl ⟨by rfl, ?_⟩) ?_ ?_
          rotate_left
          ·intro w'
           go_simp
           with_reducible rfl
          rotate_left
          ·simp only [Act.put, List.setIfInBounds_toArray, List.set_cons_zero, List.set_cons_succ, i64_w, i32_w]
           rfl
          refine pure_ (i := 3) (N := some 28) (v := ?_) (a' := ?_) #[true, true, true, true, false, false, false, false, false, false, false, false, false, false, false, false, false, false, false, false, false, false, false, false, false, false] rfl rfl (any_of HT_.out (by kernel_rfl)) (fun _ _ _ h => h) (Or.inl ⟨by rfl, ?_⟩) ?_ ?_
          rotate_left
          ·intro w'
           go_simp
           with_reducible rfl
          rotate_left
          ·simp only [Act.put, List.setIfInBounds_toArray, List.set_cons_zero, List.set_cons_succ, i64_w, i32_w]
           rfl
          refine pure_ (i := 4) (N := some 29) (v := undef) (a' := ?_) #[true, true, true, true, true, false, false, false, false, false, false, false, false, false, false, false, false, false, false, false, false, false, false, false, false, false] rfl rfl (any_of HT_.out (by kernel_rfl)) (fun _ _ _ h => h) (Or.inr ⟨by rfl, rfl⟩) ?_ ?_
          rotate_left
          ·simp only [Act.put, List.setIfInBounds_toArray, List.set_cons_zero, List.set_cons_succ, i64_w, i32_w]
           rfl
          refine pure_ (i := 5) (N := some 30) (v := undef) (a' := ?_) #[true, true, true, true, true, true, false, false, false, false, false, false, false, false, false, false, false, false, false, false, false, false, false, false, false, false] rfl rfl (any_of HT_.out (by kernel_rfl)) (fun _ _ _ h => h) (Or.inr ⟨by rfl, rfl⟩) ?_ ?_
          rotate_left
          ·simp only [Act.put, List.setIfInBounds_toArray, List.set_cons_zero, List.set_cons_succ, i64_w, i32_w]
           rfl
          refine pure_ (i := 6) (N := some 31) (v := undef) (a' := ?_) #[true, true, true, true, true, true, true, false, false, false, false, false, false, false, false, false, false, false, false, false, false, false, false, false, false, false] rfl rfl (any_of HT_.out (by kernel_rfl)) (fun _ _ _ h => h) (Or.inr ⟨by rfl, rfl⟩) ?_ ?_
          rotate_left
          ·simp only [Act.put, List.setIfInBounds_toArray, List.set_cons_zero, List.set_cons_succ, i64_w, i32_w]
           rfl
          refine pure_ (i := 7) (N := some 32) (v := undef) (a' := ?_) #[true, true, true, true, true, true, true, true, false, false, false, false, false, false, false, false, false, false, false, false, false, false, false, false, false, false] rfl rfl (any_of HT_.out (by kernel_rfl)) (fun _ _ _ h => h) (Or.inr ⟨by rfl, rfl⟩) ?_ ?_
          rotate_left
          ·simp only [Act.put, List.setIfInBounds_toArray, List.set_cons_zero, List.set_cons_succ, i64_w, i32_w]
           rfl
          refine pure_ (i := 8) (N := some 33) (v := undef) (a' := ?_) #[true, true, true, true, true, true, true, true, true, false, false, false, false, false, false, false, false, false, false, false, false, false, false, false, false, false] rfl rfl (any_of HT_.out (by kernel_rfl)) (fun _ _ _ h => h) (Or.inr ⟨by rfl, rfl⟩) ?_ ?_
          rotate_left
          ·simp only [Act.put, List.setIfInBounds_toArray, List.set_cons_zero, List.set_cons_succ, i64_w, i32_w]
           rfl
          refine pure_ (i := 9) (N := some 34) (v := ?_) (a' := ?_) #[true, true, true, true, true, true, true, true, true, true, false, false, false, false, false, false, false, false, false, false, false, false, false, false, false, false] rfl rfl (any_of HT_.out (by kernel_rfl)) (fun _ _ _ h => h) (Or.inl ⟨by rfl, ?_⟩) ?_ ?_
          rotate_left
          ·intro w'
           go_simp
           with_reducible rfl
          rotate_left
          ·simp only [Act.put, List.setIfInBounds_toArray, List.set_cons_zero, List.set_cons_succ, i64_w, i32_w]
           rfl
          refine pure_ (i := 10) (N := some 35) (v := ?_) (a' := ?_) #[true, true, true, true, true, true, true, true, true, true, true, false, false, false, false, false, false, false, false, false, false, false, false, false, false, false] rfl rfl (any_of HT_.out (by kernel_rfl)) (fun _ _ _ h => h) (Or.inl ⟨by rfl, ?_⟩) ?_ ?_
          rotate_left
          ·intro w'
           go_simp
           with_reducible rfl
          rotate_left
          ·simp only [Act.put, List.setIfInBounds_toArray, List.set_cons_zero, List.set_cons_succ, i64_w, i32_w]
           rfl
          refine pure_ (i := 11) (N := some 36) (v := undef) (a' := ?_) #[true, true, true, true, true, true, true, true, true, true, true, true, false, false, false, false, false, false, false, false, false, false, false, false, false, false] rfl rfl (any_of HT_.out (by kernel_rfl)) (fun _ _ _ h => h) (Or.inr ⟨by rfl, rfl⟩) ?_ ?_
          rotate_left
          ·simp only [Act.put, List.setIfInBounds_toArray, List.set_cons_zero, List.set_cons_succ, i64_w, i32_w]
           rfl
          refine pure_ (i := 12) (N := some 37) (v := undef) (a' := ?_) #[true, true, true, true, true, true, true, true, true, true, true, true, true, false, false, false, false, false, false, false, false, false, false, false, false, false] rfl rfl (any_of HT_.out (by kernel_rfl)) (fun _ _ _ h => h) (Or.inr ⟨by rfl, rfl⟩) ?_ ?_
          rotate_left
          ·simp only [Act.put, List.setIfInBounds_toArray, List.set_cons_zero, List.set_cons_succ, i64_w, i32_w]
           rfl
          refine pure_ (i := 13) (N := some 38) (v := undef) (a' := ?_) #[true, true, true, true, true, true, true, true, true, true, true, true, true, true, false, false, false, false, false, false, false, false, false, false, false, false] rfl rfl (any_of HT_.out (by kernel_rfl)) (fun _ _ _ h => h) (Or.inr ⟨by rfl, rfl⟩) ?_ ?_
          rotate_left
          ·simp only [Act.put, List.setIfInBounds_toArray, List.set_cons_zero, List.set_cons_succ, i64_w, i32_w]
           rfl
          refine pure_ (i := 14) (N := some 39) (v := undef) (a' := ?_) #[true, true, true, true, true, true, true, true, true, true, true, true, true, true, true, false, false, false, false, false, false, false, false, false, false, false] rfl rfl (any_of HT_.out (by kernel_rfl)) (fun _ _ _ h => h) (Or.inr ⟨by rfl, rfl⟩) ?_ ?_
          rotate_left
          ·simp only [Act.put, List.setIfInBounds_toArray, List.set_cons_zero, List.set_cons_succ, i64_w, i32_w]
           rfl
          refine pure_ (i := 15) (N := some 40) (v := undef) (a' := ?_) #[true, true, true, true, true, true, true, true, true, true, true, true, true, true, true, true, false, false, false, false, false, false, false, false, false, false] rfl rfl (any_of HT_.out (by kernel_rfl)) (fun _ _ _ h => h) (Or.inr ⟨by rfl, rfl⟩) ?_ ?_
          rotate_left
          ·simp only [Act.put, List.setIfInBounds_toArray, List.set_cons_zero, List.set_cons_succ, i64_w, i32_w]
           rfl
          refine pure_ (i := 16) (N := some 41) (v := undef) (a' := ?_) #[true, true, true, true, true, true, true, true, true, true, true, true, true, true, true, true, true, false, false, false, false, false, false, false, false, false] rfl rfl (any_of HT_.out (by kernel_rfl)) (fun _ _ _ h => h) (Or.inr ⟨by rfl, rfl⟩) ?_ ?_
          rotate_left
          ·simp only [Act.put, List.setIfInBounds_toArray, List.set_cons_zero, List.set_cons_succ, i64_w, i32_w]
           rfl
          refine pure_ (i := 17) (N := some 42) (v := undef) (a' := ?_) #[true, true, true, true, true, true, true, true, true, true, true, true, true, true, true, true, true, true, false, false, false, false, false, false, false, false] rfl rfl (any_of HT_.out (by kernel_rfl)) (fun _ _ _ h => h) (Or.inr ⟨by rfl, rfl⟩) ?_ ?_
          rotate_left
          ·simp only [Act.put, List.setIfInBounds_toArray, List.set_cons_zero, List.set_cons_succ, i64_w, i32_w]
           rfl
          refine pure_ (i := 18) (N := some 43) (v := undef) (a' := ?_) #[true, true, true, true, true, true, true, true, true, true, true, true, true, true, true, true, true, true, true, false, false, false, false, false, false, false] rfl rfl (any_of HT_.out (by kernel_rfl)) (fun _ _ _ h => h) (Or.inr ⟨by rfl, rfl⟩) ?_ ?_
          rotate_left
          ·simp only [Act.put, List.setIfInBounds_toArray, List.set_cons_zero, List.set_cons_succ, i64_w, i32_w]
           rfl
          refine pure_ (i := 19) (N := some 44) (v := undef) (a' := ?_) #[true, true, true, true, true, true, true, true, true, true, true, true, true, true, true, true, true, true, true, true, false, false, false, false, false, false] rfl rfl (any_of HT_.out (by kernel_rfl)) (fun _ _ _ h => h) (Or.inr ⟨by rfl, rfl⟩) ?_ ?_
          rotate_left
          ·simp only [Act.put, List.setIfInBounds_toArray, List.set_cons_zero, List.set_cons_succ, i64_w, i32_w]
           rfl
          refine pure_ (i := 20) (N := some 45) (v := undef) (a' := ?_) #[true, true, true, true, true, true, true, true, true, true, true, true, true, true, true, true, true, true, true, true, true, false, false, false, false, false] rfl rfl (any_of HT_.out (by kernel_rfl)) (fun _ _ _ h => h) (Or.inr ⟨by rfl, rfl⟩) ?_ ?_
          rotate_left
          ·simp only [Act.put, List.setIfInBounds_toArray, List.set_cons_zero, List.set_cons_succ, i64_w, i32_w]
           rfl
          refine pure_ (i := 21) (N := some 46) (v := undef) (a' := ?_) #[true, true, true, true, true, true, true, true, true, true, true, true, true, true, true, true, true, true, true, true, true, true, false, false, false, false] rfl rfl (any_of HT_.out (by kernel_rfl)) (fun _ _ _ h => h) (Or.inr ⟨by rfl, rfl⟩) ?_ ?_
          rotate_left
          ·simp only [Act.put, List.setIfInBounds_toArray, List.set_cons_zero, List.set_cons_succ, i64_w, i32_w]
           rfl
          refine pure_ (i := 22) (N := some 47) (v := undef) (a' := ?_) #[true, true, true, true, true, true, true, true, true, true, true, true, true, true, true, true, true, true, true, true, true, true, true, false, false, false] rfl rfl (any_of HT_.out (by kernel_rfl)) (fun _ _ _ h => h) (Or.inr ⟨by rfl, rfl⟩) ?_ ?_
          rotate_left
          ·simp only [Act.put, List.setIfInBounds_toArray, List.set_cons_zero, List.set_cons_succ, i64_w, i32_w]
           rfl
          refine pure_ (i := 23) (N := some 48) (v := undef) (a' := ?_) #[true, true, true, true, true, true, true, true, true, true, true, true, true, true, true, true, true, true, true, true, true, true, true, true, false, false] rfl rfl (any_of HT_.out (by kernel_rfl)) (fun _ _ _ h => h) (Or.inr ⟨by rfl, rfl⟩) ?_ ?_
          rotate_left
          ·simp only [Act.put, List.setIfInBounds_toArray, List.set_cons_zero, List.set_cons_succ, i64_w, i32_w]
           rfl
          refine pure_ (i := 24) (N := some 49) (v := undef) (a' := ?_) #[true, true, true, true, true, true, true, true, true, true, true, true, true, true, true, true, true, true, true, true, true, true, true, true, true, false] rfl rfl (any_of HT_.out (by kernel_rfl)) (fun _ _ _ h => h) (Or.inr ⟨by rfl, rfl⟩) ?_ ?_
          rotate_left
          ·simp only [Act.put, List.setIfInBounds_toArray, List.set_cons_zero, List.set_cons_succ, i64_w, i32_w]
           rfl
          refine pure_ (i := 25) (N := some 50) (v := ?_) (a' := ?_) #[true, true, true, true, true, true, true, true, true, true, true, true, true, true, true, true, true, true, true, true, true, true, true, true, true, true] rfl rfl (any_of HT_.out (by kernel_rfl)) (fun _ _ _ h => h) (Or.inl ⟨by rfl, ?_⟩) ?_ ?_
          rotate_left
          ·intro w'
           go_simp
           with_reducible rfl
          rotate_left
          ·simp only [Act.put, List.setIfInBounds_toArray, List.set_cons_zero, List.set_cons_succ, i64_w, i32_w]
           rfl
          refine done_ (done_of HT_.out (by kernel_rfl)) ?_
          try go_wp2
          go_ret
          exact ⟨oE, oB⟩
        ·cases H
       ·cases H
      ·replace H := bA H
       obtain ⟨⟨t292, t293, t294, t295, t298, t301, t304⟩, A51, H⟩ := H
       try dsimp only at H
       replace H := itB H
       rcases H with ⟨rfl, H⟩ | ⟨rfl, H⟩
       ·obtain rfl := Option.some.inj H
        obtain ⟨⟨_, _⟩, _, _⟩ := z2 BK286
        go_wp2_with (first | ((with_reducible refine gate_callee (f := 52) rfl ?_); refine gl_ 54 Try.func52 (impl_InodeAt.calls k2 _ _ l0_0 a0_1 1 t292 t293 t294 t295 t298 t301 true _ (kC HR0_0) HC0_0.out A51.out) ?_; rintro e w54 ⟨v296, v299, v302, rfl, ho0, ho1, ho2, hb⟩; refine ⟨_, rfl, ?_⟩; have HO297 := Aside0.mk (Kd.R_lower ho0 (below_size oB)); have HO300 := Aside0.mk (Kd.R_lower ho1 (below_size oB)); have HO303 := Aside0.mk (Kd.R_lower ho2 (below_size oB)); replace BK286 := kb_ BK286 hb; replace HB := Aside0.mk (below_step oB hb); (try clear ho1); (try clear ho2)) | ((with_reducible refine gate_dst (N := 5) rfl ?_); refine bx_ 5 #[.int .i64 0, .int .i64 0, .int .i64 0, .slice none 0 0, .slice none 0 0, .slice none 0 0] 45 ?_; intro gb305 hg w55 hbox hb; have BK305 := Aside0.mk (hbox); have GW305 := gs_ hg; have GE305 := gs_ hg; have NB286_305 := nl_ hg BK286; have NB305_286 := nr_ hg BK286; replace HO297 := kr_ HO297 hb; replace HO300 := kr_ HO300 hb; replace HO303 := kr_ HO303 hb; replace BK286 := kb_ BK286 hb; replace HB := Aside0.mk (below_step oB hb); clear hb hbox hg; have hnb56 := NB305_286.out; have hnc56 := NB286_305.out; obtain ⟨⟨_, _, _, _, _, _⟩, _, _, _, _, _, _⟩ := z6 BK305; obtain ⟨Ao58, co58, eo58⟩ := Kd.R_slice HO297.out; subst eo58; obtain ⟨Ao59, co59, eo59⟩ := Kd.R_slice HO300.out; subst eo59; obtain ⟨Ao60, co60, eo60⟩ := Kd.R_slice HO303.out; subst eo60))
        go_ret
        exact ⟨oE, oB⟩
       ·obtain rfl := Option.some.inj H
        obtain ⟨⟨_, _⟩, _, _⟩ := z2 BK286
        go_wp2_with (first | ((with_reducible refine gate_callee (f := 52) rfl ?_); refine gl_ 54 Try.func52 (impl_InodeAt.calls k2 _ _ l0_0 a0_1 1 t292 t293 t294 t295 t298 t301 false _ (kC HR0_0) HC0_0.out A51.out) ?_; rintro e w62 ⟨v296, v299, v302, rfl, ho0, ho1, ho2, hb⟩; refine ⟨_, rfl, ?_⟩; have HO297 := Aside0.mk (Kd.R_lower ho0 (below_size oB)); have HO300 := Aside0.mk (Kd.R_lower ho1 (below_size oB)); have HO303 := Aside0.mk (Kd.R_lower ho2 (below_size oB)); replace BK286 := kb_ BK286 hb; replace HB := Aside0.mk (below_step oB hb); (try clear ho1); (try clear ho2)) | ((with_reducible refine gate_dst (N := 5) rfl ?_); refine bx_ 5 #[.int .i64 0, .int .i64 0, .int .i64 0, .slice none 0 0, .slice none 0 0, .slice none 0 0] 45 ?_; intro gb305 hg w63 hbox hb; have BK305 := Aside0.mk (hbox); have GW305 := gs_ hg; have GE305 := gs_ hg; have NB286_305 := nl_ hg BK286; have NB305_286 := nr_ hg BK286; replace HO297 := kr_ HO297 hb; replace HO300 := kr_ HO300 hb; replace HO303 := kr_ HO303 hb; replace BK286 := kb_ BK286 hb; replace HB := Aside0.mk (below_step oB hb); clear hb hbox hg; have hnb64 := NB305_286.out; have hnc64 := NB286_305.out; obtain ⟨⟨_, _, _, _, _, _⟩, _, _, _, _, _, _⟩ := z6 BK305; obtain ⟨Ao66, co66, eo66⟩ := Kd.R_slice HO297.out; subst eo66; obtain ⟨Ao67, co67, eo67⟩ := Kd.R_slice HO300.out; subst eo67; obtain ⟨Ao68, co68, eo68⟩ := Kd.R_slice HO303.out; subst eo68))
        go_ret
        exact ⟨oE, oB⟩

/-! ### laws_FnExactTabOk: function 10 -/
mutual
def laws_FnExactTabOk.j0 : Nat → List (S39) → Int → Option (Bool)
 | 0, _, _ => none
 | k + 1, x307000, x307001 => (laws_toTab.f k x307000 x307001).bind fun bt308 => ((spec_TabOk.f k bt308.1 bt308.2).bind fun t312 => ((laws_toTab.f k x307000 x307001).bind fun bt313 => ((impl_TabOk.f k bt313.1 bt313.2).bind fun t318 => (if (t318 != t312) = true then (some false) else (laws_FnExactTabOk.j1 k x307000 x307001 bt313.1 bt313.2)))))
def laws_FnExactTabOk.j1 : Nat → List (S39) → Int → List (S45) → Int → Option (Bool)
 | 0, _, _, _, _ => none
 | k + 1, x307000, x307001, x318000, x318001 => (laws_toTab.f k x307000 x307001).bind fun bt319 => ((laws_eqTab.f k x318000 x318001 bt319.1 bt319.2).bind fun t323 => (if t323 = true then (some true) else (some false)))
end
def laws_FnExactTabOk.f (k : Nat) (l0_0 : List (S39)) (a0_1 : Int) : Option (Bool) := (laws_szTab.f k l0_0 a0_1 1048576).bind fun t307 => (if t307 < 0 then (some true) else (laws_FnExactTabOk.j0 k l0_0 a0_1))
set_option maxHeartbeats 8000000 in
set_option maxRecDepth 100000 in
theorem laws_FnExactTabOk.calls (k : Nat) (A0_0 : Option Addr) (c0_0 : Nat) (l0_0 : List (S39)) (a0_1 : Int) (r : Bool) (w : World) (hr0_0 : Kd.C k39 w A0_0 l0_0.length l0_0) (hc0_0 : l0_0.length ≤ c0_0) (h : laws_FnExactTabOk.f k l0_0 a0_1 = some r) :
  Calls Try.prog 10 #[.agg #[.slice A0_0 l0_0.length c0_0, .int .i64 a0_1]] w fun e w' => e = .returned (.bool r) ∧ Below w.heap.size w w' := by
 have hu50 := Try.underlying50
 have hu30 := Try.underlying30
 have HR0_0 := Aside0.mk hr0_0
 have HC0_0 := Aside0.mk hc0_0
 clear hr0_0 hc0_0
 have HB := Aside0.mk (Below.refl w.heap.size w)
 unfold laws_FnExactTabOk.f at h
 have H := h
 clear h
 replace H := bA H
 obtain ⟨t307, A2, H⟩ := H
 try dsimp only at H
 have HC3 := Aside0.mk H
 clear H
 go_enter Try.func10, Try.ntmps10
 go_upto_if 11 with (first | ((with_reducible refine gate_dst (N := 1) rfl ?_); refine bx_ 1 #[.slice A0_0 l0_0.length c0_0, .int .i64 a0_1] 50 ?_; intro gb306 hg w4 hbox hb; have BK306 := Aside0.mk (hbox); have GW306 := gs_ hg; have GE306 := gs_ hg; replace HB := Aside0.mk (below_step oB hb); clear hb hbox hg; obtain ⟨⟨_, _⟩, _, _⟩ := z2 BK306) | ((with_reducible refine gate_callee (f := 33) rfl ?_); refine gl_ 9 Try.func33 (laws_szTab.calls k _ _ l0_0 a0_1 1048576 t307 _ (kC HR0_0) HC0_0.out A2.out) ?_; rintro e w6 ⟨rfl, hb⟩; refine ⟨_, rfl, ?_⟩; replace BK306 := kb_ BK306 hb; replace HB := Aside0.mk (below_step oB hb)))
 (try simp only [Act.put, List.setIfInBounds_toArray, List.set_cons_zero, List.set_cons_succ])
 go_cut [] (fun wc => ∃ (kq : Nat), Aside0 (laws_FnExactTabOk.j0 kq l0_0 a0_1 = some r) ∧ Aside0 (kq ≤ k) ∧ Aside0 (wc.heap[gb306]? = some (.cells #[(.slice A0_0 l0_0.length c0_0), .int .i64 a0_1] 50 (0, 0))) ∧ Aside0 (Below w.heap.size w wc))
 case first =>
  have H := HC3.out
  clear HC3
  replace H := itD H
  rcases H with ⟨c7b0, H⟩ | ⟨c7b0, H⟩
  ·(first | rw [c7b0] | rw [c7b2] | (simp only [i64_w, i32_w]; rw [c7b0]) | skip)
   obtain rfl := Option.some.inj H
   go_wp2
   go_ret
   exact ⟨oE, oB⟩
  ·(first | rw [c7b0] | rw [c7b2] | (simp only [i64_w, i32_w]; rw [c7b0]) | skip)
   have H' := Aside0.mk H
   clear H
   go_wp2
   go_meet
   case rel => exact ⟨_, H', ⟨by first | omega | exact Nat.le_refl _⟩, ⟨oF BK306⟩, ⟨oB⟩⟩
 case rest =>
  clear HC3
  obtain ⟨kq, HA, HJ2, BK306, HB⟩ := hcut
  cases kq with
  | zero => exact absurd HA.out (by simp [laws_FnExactTabOk.j0])
  | succ kj2 =>
   have H := HA.out
   clear HA
   simp only [laws_FnExactTabOk.j0] at H
   replace H := bA H
   obtain ⟨⟨t308, t311⟩, A8, H⟩ := H
   try dsimp only at H
   replace H := bA H
   obtain ⟨t312, A9, H⟩ := H
   try dsimp only at H
   replace H := bA H
   obtain ⟨⟨t313, t316⟩, A10, H⟩ := H
   try dsimp only at H
   replace H := bA H
   obtain ⟨t318, A11, H⟩ := H
   try dsimp only at H
   have HC12 := Aside0.mk H
   clear H
   obtain ⟨⟨_, _⟩, _, _⟩ := z2 BK306
   go_upto_if 21 with (first | ((with_reducible refine gate_callee (f := 35) rfl ?_); refine gl_ 13 Try.func35 (laws_toTab.calls kj2 _ _ l0_0 a0_1 t308 t311 _ (kC HR0_0) HC0_0.out A8.out) ?_; rintro e w14 ⟨v309, rfl, ho0, hb⟩; refine ⟨_, rfl, ?_⟩; have HO310 := Aside0.mk (Kd.S_lower ho0 (below_size oB)); replace BK306 := kb_ BK306 hb; replace HB := Aside0.mk (below_step oB hb); obtain ⟨Ao15, co15, eo15⟩ := Kd.S_slice HO310.out; subst eo15) | ((with_reducible refine gate_callee (f := 43) rfl ?_); refine gl_ 14 Try.func43 (spec_TabOk.calls kj2 _ _ t308 t311 t312 _ ?side1 ?side2 A9.out) ?_; (case side1 => repeat (first | exact (Kd.S_reads' HO310.out).2.2 | (with_reducible refine Kd.C_alloc ?_ _) | (with_reducible refine Kd.C_drewN ?_ _) | (with_reducible refine Kd.C_drew ?_))); (case side2 => exact (Kd.S_reads' HO310.out).2.1); rintro e w16 ⟨rfl, hb⟩; refine ⟨_, rfl, ?_⟩; replace HO310 := Aside0.mk (Kd.S_below (by (with_reducible repeat (first | apply Kd.S_alloc | apply Kd.S_drewN | apply Kd.S_drew)); exact HO310.out) hb); replace BK306 := kb_ BK306 hb; replace HB := Aside0.mk (below_step oB hb); obtain ⟨⟨_, _⟩, _, _⟩ := z2 BK306) | ((with_reducible refine gate_callee (f := 35) rfl ?_); refine gl_ 16 Try.func35 (laws_toTab.calls kj2 _ _ l0_0 a0_1 t313 t316 _ (kC HR0_0) HC0_0.out A10.out) ?_; rintro e w18 ⟨v314, rfl, ho0, hb⟩; refine ⟨_, rfl, ?_⟩; have HO315 := Aside0.mk (Kd.S_lower (Kd.S_new' ho0 (Kd.S_lt (by (with_reducible repeat (first | apply Kd.S_alloc | apply Kd.S_drewN | apply Kd.S_drew)); exact HO310.out))) (below_size oB)); replace HO310 := Aside0.mk (Kd.S_elder' (by (with_reducible repeat (first | apply Kd.S_alloc | apply Kd.S_drewN | apply Kd.S_drew)); exact HO310.out) (Kd.S_base ho0) hb); replace BK306 := kb_ BK306 hb; replace HB := Aside0.mk (below_step oB hb)) | ((with_reducible refine gate_dst (N := 5) rfl ?_); refine bx_ 5 #[.slice none 0 0, .int .i64 0] 30 ?_; intro gb317 hg w19 hbox hb; have BK317 := Aside0.mk (hbox); have GW317 := gs_ hg; have GE317 := gs_ hg; have NB306_317 := nl_ hg BK306; have NB317_306 := nr_ hg BK306; replace HO310 := Aside0.mk (Kd.S_below (by (with_reducible repeat (first | apply Kd.S_alloc | apply Kd.S_drewN | apply Kd.S_drew)); exact HO310.out) hb); replace HO315 := Aside0.mk (Kd.S_below (by (with_reducible repeat (first | apply Kd.S_alloc | apply Kd.S_drewN | apply Kd.S_drew)); exact HO315.out) hb); replace BK306 := kb_ BK306 hb; replace HB := Aside0.mk (below_step oB hb); clear hb hbox hg; obtain ⟨Ao20, co20, eo20⟩ := Kd.S_slice HO315.out; subst eo20; have hnb21 := NB317_306.out; have hnc21 := NB306_317.out; obtain ⟨⟨_, _⟩, _, _⟩ := z2 BK317) | ((with_reducible refine gate_callee (f := 44) rfl ?_); refine gl_ 18 Try.func44 (impl_TabOk.calls kj2 _ _ t313 t316 t318 _ ?side1 ?side2 A11.out) ?_; (case side1 => refine (Kd.S_reads' (e := 45) (base := w.heap.size) (ok := fun k_ => (True ∧ some k_ ≠ (.slice Ao15 t308.length co15 : Value).ownBlock)) (n := t313.length) (c := co20) ?_).2.2; exact (by (with_reducible repeat (first | apply Kd.S_alloc | apply Kd.S_drewN | apply Kd.S_drew)); exact (Kd.S_mono (Kd.S_far (p := ⟨gb317, 1, none⟩) (Kd.S_far (p := ⟨gb317, 0, none⟩) (Kd.S_types HO315.out BK317.out (by decide)) (fun _ hk => hk.2) (.slice Ao20 t313.length co20)) (fun _ hk => hk.2) (.int .i64 t316)) (fun _ h_ => h_.1)))); (case side2 => exact (Kd.S_reads' HO315.out).2.1); rintro e w23 ⟨rfl, hb⟩; refine ⟨_, rfl, ?_⟩; replace HO310 := Aside0.mk (Kd.S_below (by (with_reducible repeat (first | apply Kd.S_alloc | apply Kd.S_drewN | apply Kd.S_drew)); exact (Kd.S_mono (Kd.S_far (p := ⟨gb317, 1, none⟩) (Kd.S_far (p := ⟨gb317, 0, none⟩) (Kd.S_types HO310.out BK317.out (by decide)) (fun _ hk => hk.2) (.slice Ao20 t313.length co20)) (fun _ hk => hk.2) (.int .i64 t316)) (fun _ h_ => h_.1))) hb); replace HO315 := Aside0.mk (Kd.S_below (by (with_reducible repeat (first | apply Kd.S_alloc | apply Kd.S_drewN | apply Kd.S_drew)); exact (Kd.S_mono (Kd.S_far (p := ⟨gb317, 1, none⟩) (Kd.S_far (p := ⟨gb317, 0, none⟩) (Kd.S_types HO315.out BK317.out (by decide)) (fun _ hk => hk.2) (.slice Ao20 t313.length co20)) (fun _ hk => hk.2) (.int .i64 t316)) (fun _ h_ => h_.1))) hb); replace BK306 := Aside0.mk (blk_below (g := gb306) (o := .cells #[.slice A0_0 l0_0.length c0_0, .int .i64 a0_1] 50 (0, 0)) (by (with_reducible repeat (first | refine blk_drewN ?_ _ | refine blk_drew ?_ | refine blk_alloc ?_ _)); refine blk_far ?_ NB306_317.out _; (with_reducible repeat (first | refine blk_drewN ?_ _ | refine blk_drew ?_ | refine blk_alloc ?_ _)); refine blk_far ?_ NB306_317.out _; (with_reducible repeat (first | refine blk_drewN ?_ _ | refine blk_drew ?_ | refine blk_alloc ?_ _)); exact BK306.out) hb); replace BK317 := Aside0.mk (blk_below (g := gb317) (o := .cells #[.slice Ao20 t313.length co20, .int .i64 t316] 30 (0, 0)) (by (with_reducible repeat (first | refine blk_drewN ?_ _ | refine blk_drew ?_ | refine blk_alloc ?_ _)); refine blk_put (cs := #[.slice Ao20 t313.length co20, .int .i64 0]) ?_ 1 _ rfl; (with_reducible repeat (first | refine blk_drewN ?_ _ | refine blk_drew ?_ | refine blk_alloc ?_ _)); refine blk_put (cs := #[.slice none 0 0, .int .i64 0]) ?_ 0 _ rfl; (with_reducible repeat (first | refine blk_drewN ?_ _ | refine blk_drew ?_ | refine blk_alloc ?_ _)); exact BK317.out) hb); replace HB := Aside0.mk (below_step oB hb); (try clear hk)))
   (try simp only [Act.put, List.setIfInBounds_toArray, List.set_cons_zero, List.set_cons_succ])
   go_cut [] (fun wc => ∃ (kq : Nat), Aside0 (laws_FnExactTabOk.j1 kq l0_0 a0_1 t313 t316 = some r) ∧ Aside0 (kq ≤ kj2) ∧ Aside0 (Kd.S k45 45 wc w.heap.size (fun _ => True) (.slice Ao20 t313.length co20) t313) ∧ Aside0 (wc.heap[gb306]? = some (.cells #[(.slice A0_0 l0_0.length c0_0), .int .i64 a0_1] 50 (0, 0))) ∧ Aside0 (wc.heap[gb317]? = some (.cells #[(.slice Ao20 t313.length co20), .int .i64 t316] 30 (0, 0))) ∧ Aside0 (Below w.heap.size w wc))
   case first =>
    have H := HC12.out
    clear HC12
    by_cases c24 : (t318 != t312) = true
    ·rw [if_pos c24] at H
     have c24b0 : (t318 != t312) = true := c24
     (try (have c24b1 : decide (t318 = t312) = false := by simpa using c24))
     (try (have c24b2 : (t318 == t312) = false := by simpa using c24))
     (try (have c24b3 : ¬ (t318 = t312) := by simpa using c24))
     clear c24
     (first | rw [c24b0] | rw [c24b2] | (simp only [i64_w, i32_w]; rw [c24b0]) | skip)
     obtain rfl := Option.some.inj H
     go_wp2
     go_ret
     exact ⟨oE, oB⟩
    ·rw [if_neg c24] at H
     have c24b0 : (t318 != t312) = false := by simpa using c24
     (try (have c24b1 : decide (t318 = t312) = true := by simpa using c24))
     (try (have c24b2 : (t318 == t312) = true := by simpa using c24))
     clear c24
     (first | rw [c24b0] | rw [c24b2] | (simp only [i64_w, i32_w]; rw [c24b0]) | skip)
     have H' := Aside0.mk H
     clear H
     go_wp2
     go_meet
     case rel => exact ⟨_, H', ⟨by have := HJ2.out; first | omega | exact Nat.le_refl _⟩, ⟨by (with_reducible repeat (first | apply Kd.S_alloc | apply Kd.S_drewN | apply Kd.S_drew)); exact Kd.S_mono HO315.out (fun _ hk => trivial)⟩, ⟨oF BK306⟩, ⟨oF BK317⟩, ⟨oB⟩⟩
   case rest =>
    clear HC12
    obtain ⟨kq, HA, HJ11, HO_318000, BK306, BK317, HB⟩ := hcut
    cases kq with
    | zero => exact absurd HA.out (by simp [laws_FnExactTabOk.j1])
    | succ kj11 =>
     have H := HA.out
     clear HA
     simp only [laws_FnExactTabOk.j1] at H
     replace H := bA H
     obtain ⟨⟨t319, t322⟩, A25, H⟩ := H
     try dsimp only at H
     replace H := bA H
     obtain ⟨t323, A26, H⟩ := H
     try dsimp only at H
     replace H := itB H
     rcases H with ⟨rfl, H⟩ | ⟨rfl, H⟩
     ·obtain rfl := Option.some.inj H
      try go_wp2
      replace HO_318000 := Aside0.mk (Kd.S_drew HO_318000.out)
      replace BK306 := Aside0.mk (blk_drew BK306.out)
      replace BK317 := Aside0.mk (blk_drew BK317.out)
      replace HB := Aside0.mk (below_drew1 HB.out)
      refine start_ (n := 5) (S := fun w' => w'.cell? ⟨gb317, 0, none⟩ = some (.slice Ao20 t313.length co20) ∧ w'.cell? ⟨gb317, 1, none⟩ = some (.int .i64 t316) ∧ w'.cell? ⟨gb306, 0, none⟩ = some (.slice A0_0 l0_0.length c0_0) ∧ w'.cell? ⟨gb306, 1, none⟩ = some (.int .i64 a0_1)) (ds := []) #[false, false, false, false, false] (by kernel_rfl) rfl rfl oH (fun hHeld => ?_)
      generalize wc.drew = w28 at HO_318000 BK306 BK317 HB hHeld ⊢
      refine take_ (i := 0) (N := some 22) (v := ?_) (a' := ?_) #[true, false, false, false, false] rfl rfl (by kernel_rfl) (fun _ _ _ h => h) (Or.inl ⟨by rfl, ?_⟩) hHeld ?_ ?_
      rotate_left
      ·rintro w' ⟨s0, s1, s2, s3⟩
       go_simp
       with_reducible rfl
      rotate_left
      ·simp only [Act.put, List.setIfInBounds_toArray, List.set_cons_zero, List.set_cons_succ, i64_w, i32_w]
       rfl
      refine take_ (i := 1) (N := some 23) (v := ?_) (a' := ?_) #[true, true, false, false, false] rfl rfl (by kernel_rfl) (fun _ _ _ h => h) (Or.inl ⟨by rfl, ?_⟩) hHeld ?_ ?_
      rotate_left
      ·rintro w' ⟨s0, s1, s2, s3⟩
       go_simp
       with_reducible rfl
      rotate_left
      ·simp only [Act.put, List.setIfInBounds_toArray, List.set_cons_zero, List.set_cons_succ, i64_w, i32_w]
       rfl
      refine one_ (i := 2) (N := some 24) #[true, true, true, false, false] rfl rfl (by kernel_rfl) (by decide) (fun K hK => ?_)
      refine gr_ 24 Try.func35 (laws_toTab.calls kj11 _ _ l0_0 a0_1 t319 t322 _ (kC HR0_0) HC0_0.out A25.out) ?_
      rintro e w29 ⟨v320, rfl, ho0, hb⟩
      refine ⟨_, rfl, ?_⟩
      have HO321 := Aside0.mk (Kd.S_lower (Kd.S_new' ho0 (Kd.S_lt (by (with_reducible repeat (first | apply Kd.S_alloc | apply Kd.S_drewN | apply Kd.S_drew)); exact HO_318000.out))) (below_size oB))
      replace HO_318000 := Aside0.mk (Kd.S_elder' (by (with_reducible repeat (first | apply Kd.S_alloc | apply Kd.S_drewN | apply Kd.S_drew)); exact HO_318000.out) (Kd.S_base ho0) hb)
      replace BK306 := kb_ BK306 hb
      replace BK317 := kb_ BK317 hb
      replace HB := Aside0.mk (below_step oB hb)
      obtain ⟨Ao30, co30, eo30⟩ := Kd.S_slice HO321.out
      (first | subst eo30 | (injection eo30 with f1_ f2_ f3_; have f4_ := f1_.symm; have f5_ := f3_.symm; clear f1_ f2_ f3_; subst f4_; subst f5_))
      refine hK.out _ _ oH (fun hHeld => ?_)
      clear hK K
      refine norm_ (a' := ?_) ?_ ?_
      rotate_left
      ·show Act.put _ (some 24) _ = _
       simp only [Act.put, List.setIfInBounds_toArray, List.set_cons_zero, List.set_cons_succ, i64_w, i32_w]
       rfl
      refine one_ (i := 3) (N := some 25) #[true, true, true, true, false] rfl rfl (by kernel_rfl) (by decide) (fun K hK => ?_)
      refine gr_ 25 Try.func25 (laws_eqTab.calls kj11 _ _ t313 t316 _ _ t319 t322 true _ ?side1 ?side2 ?side3 ?side4 A26.out) ?_
      (case side1 => repeat (first | exact (Kd.S_reads' HO_318000.out).2.2 | (with_reducible refine Kd.C_alloc ?_ _) | (with_reducible refine Kd.C_drewN ?_ _) | (with_reducible refine Kd.C_drew ?_)))
      (case side2 => exact (Kd.S_reads' HO_318000.out).2.1)
      (case side3 => repeat (first | exact (Kd.S_reads' HO321.out).2.2 | (with_reducible refine Kd.C_alloc ?_ _) | (with_reducible refine Kd.C_drewN ?_ _) | (with_reducible refine Kd.C_drew ?_)))
      (case side4 => exact (Kd.S_reads' HO321.out).2.1)
      rintro e w31 ⟨rfl, hb⟩
      refine ⟨_, rfl, ?_⟩
      replace HO_318000 := Aside0.mk (Kd.S_below (by (with_reducible repeat (first | apply Kd.S_alloc | apply Kd.S_drewN | apply Kd.S_drew)); exact HO_318000.out) hb)
      replace HO321 := Aside0.mk (Kd.S_below (by (with_reducible repeat (first | apply Kd.S_alloc | apply Kd.S_drewN | apply Kd.S_drew)); exact HO321.out) hb)
      replace BK306 := kb_ BK306 hb
      replace BK317 := kb_ BK317 hb
      replace HB := Aside0.mk (below_step oB hb)
      refine hK.out _ _ oH (fun hHeld => ?_)
      clear hK K
      refine norm_ (a' := ?_) ?_ ?_
      rotate_left
      ·show Act.put _ (some 25) _ = _
       simp only [Act.put, List.setIfInBounds_toArray, List.set_cons_zero, List.set_cons_succ, i64_w, i32_w]
       rfl
      refine pure_ (i := 4) (N := some 26) (v := ?_) (a' := ?_) #[true, true, true, true, true] rfl rfl (by kernel_rfl) (fun _ _ _ h => h) (Or.inl ⟨by rfl, ?_⟩) ?_ ?_
      rotate_left
      ·intro w'
       go_simp
       with_reducible rfl
      rotate_left
      ·simp only [Act.put, List.setIfInBounds_toArray, List.set_cons_zero, List.set_cons_succ, i64_w, i32_w]
       rfl
      refine done_ (by kernel_rfl) ?_
      try go_wp2
      go_ret
      exact ⟨oE, oB⟩
     ·obtain rfl := Option.some.inj H
      try go_wp2
      replace HO_318000 := Aside0.mk (Kd.S_drew HO_318000.out)
      replace BK306 := Aside0.mk (blk_drew BK306.out)
      replace BK317 := Aside0.mk (blk_drew BK317.out)
      replace HB := Aside0.mk (below_drew1 HB.out)
      refine start_ (n := 5) (S := fun w' => w'.cell? ⟨gb317, 0, none⟩ = some (.slice Ao20 t313.length co20) ∧ w'.cell? ⟨gb317, 1, none⟩ = some (.int .i64 t316) ∧ w'.cell? ⟨gb306, 0, none⟩ = some (.slice A0_0 l0_0.length c0_0) ∧ w'.cell? ⟨gb306, 1, none⟩ = some (.int .i64 a0_1)) (ds := []) #[false, false, false, false, false] (by kernel_rfl) rfl rfl oH (fun hHeld => ?_)
      generalize wc.drew = w32 at HO_318000 BK306 BK317 HB hHeld ⊢
      refine take_ (i := 0) (N := some 22) (v := ?_) (a' := ?_) #[true, false, false, false, false] rfl rfl (by kernel_rfl) (fun _ _ _ h => h) (Or.inl ⟨by rfl, ?_⟩) hHeld ?_ ?_
      rotate_left
      ·rintro w' ⟨s0, s1, s2, s3⟩
       go_simp
       with_reducible rfl
      rotate_left
      ·simp only [Act.put, List.setIfInBounds_toArray, List.set_cons_zero, List.set_cons_succ, i64_w, i32_w]
       rfl
      refine take_ (i := 1) (N := some 23) (v := ?_) (a' := ?_) #[true, true, false, false, false] rfl rfl (by kernel_rfl) (fun _ _ _ h => h) (Or.inl ⟨by rfl, ?_⟩) hHeld ?_ ?_
      rotate_left
      ·rintro w' ⟨s0, s1, s2, s3⟩
       go_simp
       with_reducible rfl
      rotate_left
      ·simp only [Act.put, List.setIfInBounds_toArray, List.set_cons_zero, List.set_cons_succ, i64_w, i32_w]
       rfl
      refine one_ (i := 2) (N := some 24) #[true, true, true, false, false] rfl rfl (by kernel_rfl) (by decide) (fun K hK => ?_)
      refine gr_ 24 Try.func35 (laws_toTab.calls kj11 _ _ l0_0 a0_1 t319 t322 _ (kC HR0_0) HC0_0.out A25.out) ?_
      rintro e w33 ⟨v320, rfl, ho0, hb⟩
      refine ⟨_, rfl, ?_⟩
      have HO321 := Aside0.mk (Kd.S_lower (Kd.S_new' ho0 (Kd.S_lt (by (with_reducible repeat (first | apply Kd.S_alloc | apply Kd.S_drewN | apply Kd.S_drew)); exact HO_318000.out))) (below_size oB))
      replace HO_318000 := Aside0.mk (Kd.S_elder' (by (with_reducible repeat (first | apply Kd.S_alloc | apply Kd.S_drewN | apply Kd.S_drew)); exact HO_318000.out) (Kd.S_base ho0) hb)
      replace BK306 := kb_ BK306 hb
      replace BK317 := kb_ BK317 hb
      replace HB := Aside0.mk (below_step oB hb)
      obtain ⟨Ao34, co34, eo34⟩ := Kd.S_slice HO321.out
      (first | subst eo34 | (injection eo34 with f1_ f2_ f3_; have f4_ := f1_.symm; have f5_ := f3_.symm; clear f1_ f2_ f3_; subst f4_; subst f5_))
      refine hK.out _ _ oH (fun hHeld => ?_)
      clear hK K
      refine norm_ (a' := ?_) ?_ ?_
      rotate_left
      ·show Act.put _ (some 24) _ = _
       simp only [Act.put, List.setIfInBounds_toArray, List.set_cons_zero, List.set_cons_succ, i64_w, i32_w]
       rfl
      refine one_ (i := 3) (N := some 25) #[true, true, true, true, false] rfl rfl (by kernel_rfl) (by decide) (fun K hK => ?_)
      refine gr_ 25 Try.func25 (laws_eqTab.calls kj11 _ _ t313 t316 _ _ t319 t322 false _ ?side1 ?side2 ?side3 ?side4 A26.out) ?_
      (case side1 => repeat (first | exact (Kd.S_reads' HO_318000.out).2.2 | (with_reducible refine Kd.C_alloc ?_ _) | (with_reducible refine Kd.C_drewN ?_ _) | (with_reducible refine Kd.C_drew ?_)))
      (case side2 => exact (Kd.S_reads' HO_318000.out).2.1)
      (case side3 => repeat (first | exact (Kd.S_reads' HO321.out).2.2 | (with_reducible refine Kd.C_alloc ?_ _) | (with_reducible refine Kd.C_drewN ?_ _) | (with_reducible refine Kd.C_drew ?_)))
      (case side4 => exact (Kd.S_reads' HO321.out).2.1)
      rintro e w35 ⟨rfl, hb⟩
      refine ⟨_, rfl, ?_⟩
      replace HO_318000 := Aside0.mk (Kd.S_below (by (with_reducible repeat (first | apply Kd.S_alloc | apply Kd.S_drewN | apply Kd.S_drew)); exact HO_318000.out) hb)
      replace HO321 := Aside0.mk (Kd.S_below (by (with_reducible repeat (first | apply Kd.S_alloc | apply Kd.S_drewN | apply Kd.S_drew)); exact HO321.out) hb)
      replace BK306 := kb_ BK306 hb
      replace BK317 := kb_ BK317 hb
      replace HB := Aside0.mk (below_step oB hb)
      refine hK.out _ _ oH (fun hHeld => ?_)
      clear hK K
      refine norm_ (a' := ?_) ?_ ?_
      rotate_left
      ·show Act.put _ (some 25) _ = _
       simp only [Act.put, List.setIfInBounds_toArray, List.set_cons_zero, List.set_cons_succ, i64_w, i32_w]
       rfl
      refine pure_ (i := 4) (N := some 26) (v := ?_) (a' := ?_) #[true, true, true, true, true] rfl rfl (by kernel_rfl) (fun _ _ _ h => h) (Or.inl ⟨by rfl, ?_⟩) ?_ ?_
      rotate_left
      ·intro w'
       go_simp
       with_reducible rfl
      rotate_left
      ·simp only [Act.put, List.setIfInBounds_toArray, List.set_cons_zero, List.set_cons_succ, i64_w, i32_w]
       rfl
      refine done_ (by kernel_rfl) ?_
      try go_wp2
      go_ret
      exact ⟨oE, oB⟩

/-! ### spec_l3SameBytes: function 76 -/
def spec_l3SameBytes.l0 : Nat → List Int → List Int → Int → Option (Bool)
 | 0, _, _, _ => none
 | k + 1, x0, x1, x5 => if x5 < (x0.length : Int) then (if 0 ≤ x5 then (if x5 < (x1.length : Int) then (if (rd x0 x5) = (rd x1 x5) then (spec_l3SameBytes.l0 k x0 x1 (wrap64 (x5 + 1))) else (some false)) else (none)) else (none)) else (some true)
def spec_l3SameBytes.f (k : Nat) (l0 : List Int) (l1 : List Int) : Option (Bool) := if (l0.length : Int) = (l1.length : Int) then (spec_l3SameBytes.l0 k l0 l1 0) else (some false)
set_option maxHeartbeats 8000000 in
set_option maxRecDepth 100000 in
theorem spec_l3SameBytes.calls (k : Nat) (A0 : Option Addr) (c0 : Nat) (l0 : List Int) (A1 : Option Addr) (c1 : Nat) (l1 : List Int) (r : Bool) (w : World) (hr0 : Kd.C (Kd.int .u8) w A0 l0.length l0) (hc0 : l0.length ≤ c0) (hr1 : Kd.C (Kd.int .u8) w A1 l1.length l1) (hc1 : l1.length ≤ c1) (h : spec_l3SameBytes.f k l0 l1 = some r) :
  Calls Try.prog 76 #[.slice A0 l0.length c0, .slice A1 l1.length c1] w fun e w' => e = .returned (.bool r) ∧ Drawn0 w w' := by
 have HR0 := Aside0.mk hr0
 have HC0 := Aside0.mk hc0
 clear hr0 hc0
 have HR1 := Aside0.mk hr1
 have HC1 := Aside0.mk hc1
 clear hr1 hc1
 unfold spec_l3SameBytes.f at h
 have H := h
 clear h
 by_cases c3 : (l0.length : Int) = (l1.length : Int)
 ·rw [if_pos c3] at H
  have c3b0 : ((l0.length : Int) == (l1.length : Int)) = true := beq_iff_eq.mpr c3
  have c3b1 : ((l0.length : Int) != (l1.length : Int)) = false := bne_eq_false_iff_eq.mpr c3
  have c3b2 : (l0.length == l1.length) = true := by first | simpa using c3 | (simp at c3 ⊢; omega)
  clear c3
  have H' := Aside0.mk H
  clear H
  go_enter Try.func76, Try.ntmps76
  go_wp2
  repeat (go_quiet (fail); try go_wp2)
  go_loopg [5] k (fun kq v5 w' => ∃ (x5_1 : Int), v5 = .int .i64 x5_1 ∧ Aside0 (spec_l3SameBytes.l0 kq l0 l1 x5_1 = some r) ∧ Aside0 (kq ≤ k) ∧ Drawn0 w w')
  case atStart => exact ⟨(0), oS, H', ⟨Nat.le_refl _⟩, oD⟩
  case round =>
   clear H'
   try clear c1
   try clear c3
   obtain ⟨x5_1, rfl, HA, HK1, ⟨m1, rfl⟩⟩ := hrel
   cases gk with
   | zero => exact absurd HA.out (by simp [spec_l3SameBytes.l0])
   | succ k1 =>
    have H := HA.out
    clear HA
    simp only [spec_l3SameBytes.l0] at H
    replace H := itD H
    rcases H with ⟨c4b0, H⟩ | ⟨c4b0, H⟩
    ·replace H := itD H
     rcases H with ⟨c5b0, H⟩ | ⟨c5b0, H⟩
     ·replace H := itD H
      rcases H with ⟨c6b0, H⟩ | ⟨c6b0, H⟩
      ·by_cases c7 : (rd l0 x5_1) = (rd l1 x5_1)
       ·rw [if_pos c7] at H
        have c7b0 : ((rd l0 x5_1) == (rd l1 x5_1)) = true := beq_iff_eq.mpr c7
        have c7b1 : ((rd l0 x5_1) != (rd l1 x5_1)) = false := bne_eq_false_iff_eq.mpr c7
        clear c7
        have H' := Aside0.mk H
        clear H
        have p324 : (0 ≤ (x5_1 : Int)) = True := oT
        have q324 : (x5_1 < (l0.length : Int)) = True := oT
        obtain ⟨ad324, e324, hx324_0⟩ := Kd.at_int HR0.out x5_1 oa oa
        cases e324
        have p325 : (0 ≤ (x5_1 : Int)) = True := oT
        have q325 : (x5_1 < (l1.length : Int)) = True := oT
        obtain ⟨ad325, e325, hx325_0⟩ := Kd.at_int HR1.out x5_1 oa oa
        cases e325
        go_wp2
        repeat (go_quiet (fail); try go_wp2)
        go_roundg k1
        case measure => have := HK1.out; omega
        case rel => exact ⟨(wrap64 (x5_1 + 1)), oS, H', ⟨by have := HK1.out; omega⟩, oD⟩
       ·rw [if_neg c7] at H
        have c7b0 : ((rd l0 x5_1) == (rd l1 x5_1)) = false := beq_eq_false_iff_ne.mpr c7
        have c7b1 : ((rd l0 x5_1) != (rd l1 x5_1)) = true := bne_iff_ne.mpr c7
        obtain rfl := Option.some.inj H
        have p324 : (0 ≤ (x5_1 : Int)) = True := oT
        have q324 : (x5_1 < (l0.length : Int)) = True := oT
        obtain ⟨ad324, e324, hx324_0⟩ := Kd.at_int HR0.out x5_1 oa oa
        cases e324
        have p325 : (0 ≤ (x5_1 : Int)) = True := oT
        have q325 : (x5_1 < (l1.length : Int)) = True := oT
        obtain ⟨ad325, e325, hx325_0⟩ := Kd.at_int HR1.out x5_1 oa oa
        cases e325
        go_wp2
        repeat (go_quiet (fail); try go_wp2)
        go_ret
        exact ⟨oS, oD⟩
      ·cases H
     ·cases H
    ·obtain rfl := Option.some.inj H
     go_wp2
     repeat (go_quiet (fail); try go_wp2)
     go_ret
     exact ⟨oS, oD⟩
 ·rw [if_neg c3] at H
  have c3b0 : ((l0.length : Int) == (l1.length : Int)) = false := beq_eq_false_iff_ne.mpr c3
  have c3b1 : ((l0.length : Int) != (l1.length : Int)) = true := bne_iff_ne.mpr c3
  have c3b2 : (l0.length == l1.length) = false := by first | simpa using c3 | (simp at c3 ⊢; omega)
  obtain rfl := Option.some.inj H
  go_enter Try.func76, Try.ntmps76
  go_wp2
  repeat (go_quiet (fail); try go_wp2)
  go_ret
  exact ⟨oS, oD⟩

end Go.Proofs.Ytkknehgaebhbeaa.P
