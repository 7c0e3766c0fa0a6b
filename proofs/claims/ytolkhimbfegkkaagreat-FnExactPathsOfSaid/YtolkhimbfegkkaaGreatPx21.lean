-- By this session's own program (wip/myprint.py) out of the translation; Lean checks it.
import Derived.Test.YtolkhimbfegkkaaGreatPx0
import Derived.Test.YtolkhimbfegkkaaGreatPx1
import Derived.Test.YtolkhimbfegkkaaGreatPx3
import Derived.Test.YtolkhimbfegkkaaGreatPx17
import Derived.Test.YtolkhimbfegkkaaGreatPx18
namespace Go.Proofs.YtolkhimbfegkkaaGreat.P
open Go.RowKit Go.Proofs.YtolkhimbfegkkaaGreatW.PrintWords Go.Proofs.YtolkhimbfegkkaaGreatW.PrintLast Go.Proofs.YtolkhimbfegkkaaGreatW.PrintMore
attribute [local go_sem] max2_int min2_int max_two min_two max_three min_three max_four min_four   -- for this text's walks alone
set_option linter.unusedVariables false
set_option linter.unusedSimpArgs false

/-! ### spec_TreeOk: function 14 -/
mutual
def spec_TreeOk.j0 : Nat → Bool → List (S47) → Int → Option (Bool)
 | 0, _, _, _ => none
 | k + 1, x17, x244000, x244001 => if x17 = true then (some false) else (spec_TreeOk.l0 k 0 x244000 x244001)
def spec_TreeOk.l0 : Nat → Int → List (S47) → Int → Option (Bool)
 | 0, _, _, _ => none
 | k + 1, x3, x244000, x244001 => if x3 < (x244000.length : Int) then (if 0 ≤ x3 then ((spec_LinksOf.f k x244000 x244001 ((rd_T47 x244000 x3).f0)).bind fun t250 => (if t250 = ((rd_T47 x244000 x3).f2) then (spec_TreeOk.l1 k x3 0 x244000 x244001 ((rd_T47 x244000 x3).f0) ((rd_T47 x244000 x3).f1) ((rd_T47 x244000 x3).f2) ((rd_T47 x244000 x3).f3) ((rd_T47 x244000 x3).f4) ((rd_T47 x244000 x3).f5)) else (some false))) else (none)) else (some true)
def spec_TreeOk.l1 : Nat → Int → Int → List (S47) → Int → Int → Int → Int → List Int → List (S63) → List (S87) → Option (Bool)
 | 0, _, _, _, _, _, _, _, _, _, _ => none
 | k + 1, x3, x5, x244000, x244001, x250000, x250001, x250002, x250003, x250004, x250005 => if x5 < (x250004.length : Int) then (if 0 ≤ x5 then ((spec_l4At.f k x244000 x244001 ((rd_T63 x250004 x5).f1)).bind fun t252 => (if t252 < 0 then (some false) else (spec_TreeOk.l1 k x3 (wrap64 (x5 + 1)) x244000 x244001 x250000 x250001 x250002 x250003 x250004 x250005))) else (none)) else (spec_TreeOk.l0 k (wrap64 (x3 + 1)) x244000 x244001)
end
def spec_TreeOk.f (k : Nat) (l0_0 : List (S47)) (a0_1 : Int) : Option (Bool) := (spec_TabOk.f k l0_0 a0_1).bind fun t244 => (if t244 = true then ((spec_Reached.f k l0_0 a0_1).bind fun t245 => (spec_TreeOk.j0 k ((t245.length : Int) != (l0_0.length : Int)) l0_0 a0_1)) else (spec_TreeOk.j0 k true l0_0 a0_1))
def spec_TreeOk.T1 : Bool × List (List Nat × List Nat) := (true, [([], []), ([0], [0]), ([1], [1]), ([2, 1], [2]), ([3], [3]), ([4, 3, 3], [3, 4]), ([5, 3], [3, 5]), ([3], [3]), ([7, 3], [3, 7]), ([8, 3], [3, 8]), ([6, 9, 3], [3, 6, 9]), ([3, 10], [3, 10])])
def spec_TreeOk.B1 : List Nat := [0, 1, 3, 7, 15, 31, 63, 15, 143, 399, 1023, 2047]
theorem spec_TreeOk.tab1 : rtab .any (opsOf Tryz.f14 1) = spec_TreeOk.T1 := by kernel_rfl
theorem spec_TreeOk.bits1 : waitsOk spec_TreeOk.T1.2 spec_TreeOk.B1 = true := by kernel_rfl
def spec_TreeOk.T12 : Bool × List (List Nat × List Nat) := (true, [([], []), ([], []), ([1], [1]), ([], []), ([2, 3], [2, 3]), ([4], [4]), ([5], [5]), ([0, 6], [0, 6]), ([7], [7])])
def spec_TreeOk.B12 : List Nat := [0, 0, 2, 0, 14, 30, 62, 127, 255]
theorem spec_TreeOk.tab12 : rtab .any (opsOf Tryz.f14 12) = spec_TreeOk.T12 := by kernel_rfl
theorem spec_TreeOk.bits12 : waitsOk spec_TreeOk.T12.2 spec_TreeOk.B12 = true := by kernel_rfl
set_option maxHeartbeats 8000000 in
set_option maxRecDepth 100000 in
theorem spec_TreeOk.calls (k : Nat) (A0_0 : Option Addr) (c0_0 : Nat) (l0_0 : List (S47)) (a0_1 : Int) (r : Bool) (w : World) (hr0_0 : Kd.C k47 w A0_0 l0_0.length l0_0) (hc0_0 : l0_0.length ≤ c0_0) (h : spec_TreeOk.f k l0_0 a0_1 = some r) :
  Calls Tryz.prog 14 #[.agg #[.slice A0_0 l0_0.length c0_0, .int .i64 a0_1]] w fun e w' => e = .returned (.bool r) ∧ Below w.heap.size w w' := by
 have hu30 := Tryz.underlying30
 have hu47 := Tryz.underlying47
 have HR0_0 := Aside0.mk hr0_0
 have HC0_0 := Aside0.mk hc0_0
 clear hr0_0 hc0_0
 have HB := Aside0.mk (Below.refl w.heap.size w)
 unfold spec_TreeOk.f at h
 have H := h
 clear h
 have HC2 := Aside0.mk H
 clear H
 go_enter Tryz.func14, Tryz.ntmps14
 go_upto_region 1 with (first | ((with_reducible refine gate_dst (N := 1) rfl ?_); (try (refine gate_guard (by rfl) ?_; dsimp only)); refine bx_ 1 #[.slice A0_0 l0_0.length c0_0, .int .i64 a0_1] 30 ?_; intro gb243 hg w3 hbox hb; have BK243 := Aside0.mk (hbox); have GW243 := gs_ hg; replace HB := Aside0.mk (below_step oB hb); clear hb hbox hg))
 (try simp only [Act.put, List.setIfInBounds_toArray, List.set_cons_zero, List.set_cons_succ])
 go_cut [17] (fun v17 wc => ∃ (kq : Nat) (x17_1 : Bool), v17 = .bool x17_1 ∧ Aside0 (spec_TreeOk.j0 kq x17_1 l0_0 a0_1 = some r) ∧ Aside0 (kq ≤ k) ∧ Aside0 (wc.heap[gb243]? = some (.cells #[(.slice A0_0 l0_0.length c0_0), .int .i64 a0_1] 30 (0, 0))) ∧ Aside0 (Below w.heap.size w wc))
 case first =>
  have H := HC2.out
  clear HC2
  replace H := bA H
  obtain ⟨t244, A4, H⟩ := H
  try dsimp only at H
  replace H := itB H
  rcases H with ⟨rfl, H⟩ | ⟨rfl, H⟩
  ·replace H := bA H
   obtain ⟨t245, A6, H⟩ := H
   try dsimp only at H
   have H' := Aside0.mk H
   clear H
   try go_wp2
   replace BK243 := Aside0.mk (blk_drew BK243.out)
   replace HB := Aside0.mk (below_drew1 HB.out)
   refine st_ 12 (fun w' => w'.cell? ⟨gb243, 0, none⟩ = some (.slice A0_0 l0_0.length c0_0) ∧ w'.cell? ⟨gb243, 1, none⟩ = some (.int .i64 a0_1)) spec_TreeOk.tab1 spec_TreeOk.bits1 oH (fun hHeld HT_ HW_ => ?_)
   generalize w3.drew = w7 at BK243 HB hHeld ⊢
   refine ta_ 0 6 HT_ HW_ hHeld ?_
   refine on_ 1 7 HT_ (fun K hK => ?_)
   refine gr_ 7 Tryz.func26 (spec_TabOk.calls k _ _ l0_0 a0_1 true _ (kC HR0_0) HC0_0.out A4.out) ?_
   rintro e w8 ⟨rfl, hb⟩
   refine ⟨_, rfl, ?_⟩
   replace BK243 := kb_ BK243 hb
   replace HB := Aside0.mk (below_step oB hb)
   refine hk_ hK 7 oH (fun hHeld => ?_)
   clear hK K
   refine pu_ 2 8 HT_ ?_
   refine pu_ 3 9 HT_ ?_
   refine pu_ 7 13 HT_ ?_
   refine ta_ 4 10 HT_ HW_ hHeld ?_
   refine ta_ 8 14 HT_ HW_ hHeld ?_
   refine pu_ 9 15 HT_ ?_
   refine on_ 5 11 HT_ (fun K hK => ?_)
   refine gr_ 11 Tryz.func27 (spec_Reached.calls k _ _ l0_0 a0_1 t245 _ (kC HR0_0) HC0_0.out A6.out) ?_
   rintro e w9 ⟨v246, rfl, ho0, hb⟩
   refine ⟨_, rfl, ?_⟩
   have HO247 := Aside0.mk (Kd.R_lower ho0 (below_size oB))
   replace BK243 := kb_ BK243 hb
   replace HB := Aside0.mk (below_step oB hb)
   obtain ⟨Ao10, co10, eo10⟩ := Kd.R_slice HO247.out
   (first | subst eo10 | (injection eo10 with f1_ f2_ f3_; have f4_ := f1_.symm; have f5_ := f3_.symm; clear f1_ f2_ f3_; subst f4_; subst f5_))
   refine hk_ hK 11 oH (fun hHeld => ?_)
   clear hK K
   refine pu_ 6 12 HT_ ?_
   refine pu_ 10 16 HT_ ?_
   refine pu_ 11 17 HT_ ?_
   refine dn_ HT_ ?_
   try go_wp2
   go_meet
   case rel => exact ⟨_, (((t245.length : Int) != (l0_0.length : Int))), oS, H', ⟨by first | omega | exact Nat.le_refl _⟩, ⟨oF BK243⟩, ⟨oB⟩⟩
  ·have H' := Aside0.mk H
   clear H
   try go_wp2
   replace BK243 := Aside0.mk (blk_drew BK243.out)
   replace HB := Aside0.mk (below_drew1 HB.out)
   refine st_ 12 (fun w' => w'.cell? ⟨gb243, 0, none⟩ = some (.slice A0_0 l0_0.length c0_0) ∧ w'.cell? ⟨gb243, 1, none⟩ = some (.int .i64 a0_1)) spec_TreeOk.tab1 spec_TreeOk.bits1 oH (fun hHeld HT_ HW_ => ?_)
   generalize w3.drew = w11 at BK243 HB hHeld ⊢
   refine ta_ 0 6 HT_ HW_ hHeld ?_
   refine on_ 1 7 HT_ (fun K hK => ?_)
   refine gr_ 7 Tryz.func26 (spec_TabOk.calls k _ _ l0_0 a0_1 false _ (kC HR0_0) HC0_0.out A4.out) ?_
   rintro e w12 ⟨rfl, hb⟩
   refine ⟨_, rfl, ?_⟩
   replace BK243 := kb_ BK243 hb
   replace HB := Aside0.mk (below_step oB hb)
   refine hk_ hK 7 oH (fun hHeld => ?_)
   clear hK K
   refine pu_ 2 8 HT_ ?_
   refine pu_ 3 9 HT_ ?_
   refine pn_ 4 10 HT_ ?_
   refine pn_ 5 11 HT_ ?_
   refine pn_ 6 12 HT_ ?_
   refine pn_ 7 13 HT_ ?_
   refine pn_ 8 14 HT_ ?_
   refine pn_ 9 15 HT_ ?_
   refine pn_ 10 16 HT_ ?_
   refine pu_ 11 17 HT_ ?_
   refine dn_ HT_ ?_
   try go_wp2
   go_meet
   case rel => exact ⟨_, (true), oS, H', ⟨by first | omega | exact Nat.le_refl _⟩, ⟨oF BK243⟩, ⟨oB⟩⟩
 case rest =>
  clear HC2
  obtain ⟨kq, x17_1, rfl, HA, HJ1, BK243, HB⟩ := hcut
  cases kq with
  | zero => exact absurd HA.out (by simp [spec_TreeOk.j0])
  | succ kj1 =>
   have H := HA.out
   clear HA
   simp only [spec_TreeOk.j0] at H
   replace H := itB H
   rcases H with ⟨rfl, H⟩ | ⟨rfl, H⟩
   ·obtain rfl := Option.some.inj H
    go_wp2
    go_ret
    exact ⟨oE, oB⟩
   ·have H' := Aside0.mk H
    clear H
    go_wp2
    go_loopg [3] kj1 (fun kq v3 w' => ∃ (x3_2 : Int), v3 = .int .i64 x3_2 ∧ Aside0 (spec_TreeOk.l0 kq x3_2 l0_0 a0_1 = some r) ∧ Aside0 (kq ≤ kj1) ∧ Aside0 (w'.heap[gb243]? = some (.cells #[(.slice A0_0 l0_0.length c0_0), .int .i64 a0_1] 30 (0, 0))) ∧ Aside0 (Below w.heap.size w w'))
    case atStart => exact ⟨(0), oS, H', ⟨Nat.le_refl _⟩, ⟨oF BK243⟩, ⟨oB⟩⟩
    case round =>
     clear H'
     obtain ⟨x3_2, rfl, HA, HK2, BK243, HB⟩ := hrel
     cases gk with
     | zero => exact absurd HA.out (by simp [spec_TreeOk.l0])
     | succ k2 =>
      have H := HA.out
      clear HA
      simp only [spec_TreeOk.l0] at H
      replace H := itD H
      rcases H with ⟨c14b0, H⟩ | ⟨c14b0, H⟩
      ·replace H := itD H
       rcases H with ⟨c15b0, H⟩ | ⟨c15b0, H⟩
       ·replace H := bA H
        obtain ⟨t250, A16, H⟩ := H
        try dsimp only at H
        by_cases c17 : t250 = ((rd_T47 l0_0 x3_2).f2)
        ·rw [if_pos c17] at H
         have c17b0 : (t250 == ((rd_T47 l0_0 x3_2).f2)) = true := beq_iff_eq.mpr c17
         have c17b1 : (t250 != ((rd_T47 l0_0 x3_2).f2)) = false := bne_eq_false_iff_eq.mpr c17
         clear c17
         have H' := Aside0.mk H
         clear H
         obtain ⟨⟨_, _⟩, _, _⟩ := z2 BK243
         have p248 : (0 ≤ (x3_2 : Int)) = True := oT
         have q248 : (x3_2 < (l0_0.length : Int)) = True := oT
         obtain ⟨ad248, A248_3, c248_3, A248_4, c248_4, A248_5, c248_5, e248, hx248_0, hx248_1, hx248_2, hx248_3, hx248_4, hx248_5, hl248_3, hi248_3, hl248_4, hi248_4, hl248_5, hi248_5⟩ := at_T47 HR0_0.out x3_2 oa oa
         cases e248
         replace hx248_0 := cB HB hx248_0
         replace hx248_1 := cB HB hx248_1
         replace hx248_2 := cB HB hx248_2
         replace hx248_3 := cB HB hx248_3
         replace hx248_4 := cB HB hx248_4
         replace hx248_5 := cB HB hx248_5
         have HR248_3 := Aside0.mk hi248_3
         have HC248_3 := Aside0.mk hl248_3
         clear hi248_3 hl248_3
         have HR248_4 := Aside0.mk hi248_4
         have HC248_4 := Aside0.mk hl248_4
         clear hi248_4 hl248_4
         have HR248_5 := Aside0.mk hi248_5
         have HC248_5 := Aside0.mk hl248_5
         clear hi248_5 hl248_5
         try go_wp2_with (first | ((with_reducible refine gate_dst (N := 4) rfl ?_); (try (refine gate_guard (by rfl) ?_; dsimp only)); refine bx_ 4 #[.int .i64 0, .int .i64 0, .int .i64 0, .slice none 0 0, .slice none 0 0, .slice none 0 0] 47 ?_; intro gb249 hg w19 hbox hb; have BK249 := Aside0.mk (hbox); have GW249 := gs_ hg; have NB243_249 := nl_ hg BK243; have NB249_243 := nr_ hg BK243; replace BK243 := kb_ BK243 hb; replace HB := Aside0.mk (below_step oB hb); clear hb hbox hg; have hnb20 := NB249_243.out; have hnc20 := NB243_249.out; obtain ⟨⟨_, _, _, _, _, _⟩, _, _, _, _, _, _⟩ := z6 BK249))
         generalize hW_ : ((((((w19.setCell ⟨gb249, 0, none⟩ (.int .i64 ((rd_T47 l0_0 x3_2).f0))).setCell ⟨gb249, 1, none⟩ (.int .i64 ((rd_T47 l0_0 x3_2).f1))).setCell ⟨gb249, 2, none⟩ (.int .i64 ((rd_T47 l0_0 x3_2).f2))).setCell ⟨gb249, 3, none⟩ (.slice A248_3 ((rd_T47 l0_0 x3_2).f3).length c248_3)).setCell ⟨gb249, 4, none⟩ (.slice A248_4 ((rd_T47 l0_0 x3_2).f4).length c248_4)).setCell ⟨gb249, 5, none⟩ (.slice A248_5 ((rd_T47 l0_0 x3_2).f5).length c248_5)) = w22
         replace BK243 := kw_ hW_ BK243
         replace BK249 := kv_ #[.int .i64 ((rd_T47 l0_0 x3_2).f0), .int .i64 ((rd_T47 l0_0 x3_2).f1), .int .i64 ((rd_T47 l0_0 x3_2).f2), .slice A248_3 ((rd_T47 l0_0 x3_2).f3).length c248_3, .slice A248_4 ((rd_T47 l0_0 x3_2).f4).length c248_4, .slice A248_5 ((rd_T47 l0_0 x3_2).f5).length c248_5] hW_ BK249
         replace HB := hw_ hW_ HB
         clear hW_
         replace BK243 := Aside0.mk (blk_drew BK243.out)
         replace BK249 := Aside0.mk (blk_drew BK249.out)
         replace HB := Aside0.mk (below_drew1 HB.out)
         refine s0_ 7 (fun w' => w'.cell? ⟨gb243, 0, none⟩ = some (.slice (some ad248) l0_0.length c0_0) ∧ w'.cell? ⟨gb243, 1, none⟩ = some (.int .i64 a0_1) ∧ w'.cell? ⟨gb249, 0, none⟩ = some (.int .i64 ((rd_T47 l0_0 x3_2).f0)) ∧ w'.cell? ⟨gb249, 1, none⟩ = some (.int .i64 ((rd_T47 l0_0 x3_2).f1)) ∧ w'.cell? ⟨gb249, 2, none⟩ = some (.int .i64 ((rd_T47 l0_0 x3_2).f2)) ∧ w'.cell? ⟨gb249, 3, none⟩ = some (.slice A248_3 ((rd_T47 l0_0 x3_2).f3).length c248_3) ∧ w'.cell? ⟨gb249, 4, none⟩ = some (.slice A248_4 ((rd_T47 l0_0 x3_2).f4).length c248_4) ∧ w'.cell? ⟨gb249, 5, none⟩ = some (.slice A248_5 ((rd_T47 l0_0 x3_2).f5).length c248_5)) oH (fun hHeld => ?_)
         generalize w22.drew = w23 at BK243 BK249 HB hHeld ⊢
         refine p0_ 1 31 ?_
         refine p0_ 4 34 ?_
         refine t0_ 0 30 hHeld ?_
         refine t0_ 2 32 hHeld ?_
         refine t0_ 5 35 hHeld ?_
         refine o0_ 3 33 (fun K hK => ?_)
         refine gr_ 33 Tryz.func28 (spec_LinksOf.calls k2 _ _ l0_0 a0_1 ((rd_T47 l0_0 x3_2).f0) t250 _ (kC HR0_0) HC0_0.out A16.out) ?_
         rintro e w24 ⟨rfl, hb⟩
         refine ⟨_, rfl, ?_⟩
         replace BK243 := kb_ BK243 hb
         replace BK249 := kb_ BK249 hb
         replace HB := Aside0.mk (below_step oB hb)
         refine hk_ hK 33 oH (fun hHeld => ?_)
         clear hK K
         refine p0_ 6 36 ?_
         refine done_ (by kernel_rfl) ?_
         try go_wp2
         go_loopg [5] k2 (fun kq v5 w' => ∃ (x5_3 : Int), v5 = .int .i64 x5_3 ∧ Aside0 (spec_TreeOk.l1 kq x3_2 x5_3 l0_0 a0_1 ((rd_T47 l0_0 x3_2).f0) ((rd_T47 l0_0 x3_2).f1) ((rd_T47 l0_0 x3_2).f2) ((rd_T47 l0_0 x3_2).f3) ((rd_T47 l0_0 x3_2).f4) ((rd_T47 l0_0 x3_2).f5) = some r) ∧ Aside0 (kq ≤ k2) ∧ Aside0 (w'.heap[gb243]? = some (.cells #[(.slice (some ad248) l0_0.length c0_0), .int .i64 a0_1] 30 (0, 0))) ∧ Aside0 (w'.heap[gb249]? = some (.cells #[.int .i64 ((rd_T47 l0_0 x3_2).f0), .int .i64 ((rd_T47 l0_0 x3_2).f1), .int .i64 ((rd_T47 l0_0 x3_2).f2), (.slice A248_3 ((rd_T47 l0_0 x3_2).f3).length c248_3), (.slice A248_4 ((rd_T47 l0_0 x3_2).f4).length c248_4), (.slice A248_5 ((rd_T47 l0_0 x3_2).f5).length c248_5)] 47 (0, 0))) ∧ Aside0 (Below w.heap.size w w'))
         case atStart => exact ⟨(0), oS, H', ⟨Nat.le_refl _⟩, ⟨oF BK243⟩, ⟨oF BK249⟩, ⟨oB⟩⟩
         case round =>
          clear H'
          try clear c14b0
          try clear c15b0
          try clear c17
          obtain ⟨x5_3, rfl, HA, HK3, BK243, BK249, HB⟩ := hrel
          cases gk with
          | zero => exact absurd HA.out (by simp [spec_TreeOk.l1])
          | succ k3 =>
           have H := HA.out
           clear HA
           simp only [spec_TreeOk.l1] at H
           replace H := itD H
           rcases H with ⟨c25b0, H⟩ | ⟨c25b0, H⟩
           ·replace H := itD H
            rcases H with ⟨c26b0, H⟩ | ⟨c26b0, H⟩
            ·replace H := bA H
             obtain ⟨t252, A27, H⟩ := H
             try dsimp only at H
             replace H := itD H
             rcases H with ⟨c28b0, H⟩ | ⟨c28b0, H⟩
             ·obtain rfl := Option.some.inj H
              have hnb29 := NB249_243.out
              have hnc29 := NB243_249.out
              obtain ⟨⟨_, _, _, _, _, _⟩, _, _, _, _, _, _⟩ := z6 BK249
              try go_wp2
              replace BK243 := Aside0.mk (blk_drew BK243.out)
              replace BK249 := Aside0.mk (blk_drew BK249.out)
              replace HB := Aside0.mk (below_drew1 HB.out)
              have p251 : (0 ≤ (x5_3 : Int)) = True := oT
              have q251 : (x5_3 < (((rd_T47 l0_0 x3_2).f4).length : Int)) = True := oT
              obtain ⟨ad251, e251, hx251_0, hx251_1⟩ := at_T63 HR248_4.out x5_3 oa oa
              have hw251_1 := hx251_1
              have hw251_0 := hx251_0
              cases e251
              replace hx251_0 := cB HB hx251_0
              replace hx251_1 := cB HB hx251_1
              refine st_ 9 (fun w' => w'.cell? ⟨gb243, 0, none⟩ = some (.slice (some ad248) l0_0.length c0_0) ∧ w'.cell? ⟨gb243, 1, none⟩ = some (.int .i64 a0_1) ∧ w'.cell? ⟨gb249, 0, none⟩ = some (.int .i64 ((rd_T47 l0_0 x3_2).f0)) ∧ w'.cell? ⟨gb249, 1, none⟩ = some (.int .i64 ((rd_T47 l0_0 x3_2).f1)) ∧ w'.cell? ⟨gb249, 2, none⟩ = some (.int .i64 ((rd_T47 l0_0 x3_2).f2)) ∧ w'.cell? ⟨gb249, 3, none⟩ = some (.slice A248_3 ((rd_T47 l0_0 x3_2).f3).length c248_3) ∧ w'.cell? ⟨gb249, 4, none⟩ = some (.slice (some ad251) ((rd_T47 l0_0 x3_2).f4).length c248_4) ∧ w'.cell? ⟨gb249, 5, none⟩ = some (.slice A248_5 ((rd_T47 l0_0 x3_2).f5).length c248_5) ∧ w'.cell? (ad251.add ((x5_3).toNat * 2)) = some (.string ((rd_T63 ((rd_T47 l0_0 x3_2).f4) x5_3).f0)) ∧ w'.cell? ⟨(ad251.add ((x5_3).toNat * 2)).block, (ad251.add ((x5_3).toNat * 2)).off + 1, none⟩ = some (.int .i64 ((rd_T63 ((rd_T47 l0_0 x3_2).f4) x5_3).f1))) spec_TreeOk.tab12 spec_TreeOk.bits12 oH (fun hHeld HT_ HW_ => ?_)
              generalize wr.drew = w31 at BK243 BK249 HB hx251_0 hx251_1 hHeld ⊢
              refine pu_ 1 45 HT_ ?_
              refine pu_ 3 47 HT_ ?_
              refine ta_ 0 44 HT_ HW_ hHeld ?_
              refine ta_ 2 46 HT_ HW_ hHeld ?_
              refine pu_ 4 48 HT_ ?_
              refine pu_ 5 49 HT_ ?_
              refine ta_ 6 50 HT_ HW_ hHeld ?_
              refine on_ 7 51 HT_ (fun K hK => ?_)
              refine gr_ 51 Tryz.func29 (spec_l4At.calls k3 _ _ l0_0 a0_1 ((rd_T63 ((rd_T47 l0_0 x3_2).f4) x5_3).f1) t252 _ (kC HR0_0) HC0_0.out A27.out) ?_
              rintro e w32 ⟨rfl, hb⟩
              refine ⟨_, rfl, ?_⟩
              replace BK243 := kb_ BK243 hb
              replace BK249 := kb_ BK249 hb
              replace HB := Aside0.mk (below_step oB hb)
              refine hk_ hK 51 oH (fun hHeld => ?_)
              clear hK K
              refine pu_ 8 52 HT_ ?_
              refine dn_ HT_ ?_
              try go_wp2
              go_ret
              exact ⟨oE, oB⟩
             ·have H' := Aside0.mk H
              clear H
              have hnb33 := NB249_243.out
              have hnc33 := NB243_249.out
              obtain ⟨⟨_, _, _, _, _, _⟩, _, _, _, _, _, _⟩ := z6 BK249
              try go_wp2
              replace BK243 := Aside0.mk (blk_drew BK243.out)
              replace BK249 := Aside0.mk (blk_drew BK249.out)
              replace HB := Aside0.mk (below_drew1 HB.out)
              have p251 : (0 ≤ (x5_3 : Int)) = True := oT
              have q251 : (x5_3 < (((rd_T47 l0_0 x3_2).f4).length : Int)) = True := oT
              obtain ⟨ad251, e251, hx251_0, hx251_1⟩ := at_T63 HR248_4.out x5_3 oa oa
              have hw251_1 := hx251_1
              have hw251_0 := hx251_0
              cases e251
              replace hx251_0 := cB HB hx251_0
              replace hx251_1 := cB HB hx251_1
              refine st_ 9 (fun w' => w'.cell? ⟨gb243, 0, none⟩ = some (.slice (some ad248) l0_0.length c0_0) ∧ w'.cell? ⟨gb243, 1, none⟩ = some (.int .i64 a0_1) ∧ w'.cell? ⟨gb249, 0, none⟩ = some (.int .i64 ((rd_T47 l0_0 x3_2).f0)) ∧ w'.cell? ⟨gb249, 1, none⟩ = some (.int .i64 ((rd_T47 l0_0 x3_2).f1)) ∧ w'.cell? ⟨gb249, 2, none⟩ = some (.int .i64 ((rd_T47 l0_0 x3_2).f2)) ∧ w'.cell? ⟨gb249, 3, none⟩ = some (.slice A248_3 ((rd_T47 l0_0 x3_2).f3).length c248_3) ∧ w'.cell? ⟨gb249, 4, none⟩ = some (.slice (some ad251) ((rd_T47 l0_0 x3_2).f4).length c248_4) ∧ w'.cell? ⟨gb249, 5, none⟩ = some (.slice A248_5 ((rd_T47 l0_0 x3_2).f5).length c248_5) ∧ w'.cell? (ad251.add ((x5_3).toNat * 2)) = some (.string ((rd_T63 ((rd_T47 l0_0 x3_2).f4) x5_3).f0)) ∧ w'.cell? ⟨(ad251.add ((x5_3).toNat * 2)).block, (ad251.add ((x5_3).toNat * 2)).off + 1, none⟩ = some (.int .i64 ((rd_T63 ((rd_T47 l0_0 x3_2).f4) x5_3).f1))) spec_TreeOk.tab12 spec_TreeOk.bits12 oH (fun hHeld HT_ HW_ => ?_)
              generalize wr.drew = w35 at BK243 BK249 HB hx251_0 hx251_1 hHeld ⊢
              refine pu_ 1 45 HT_ ?_
              refine pu_ 3 47 HT_ ?_
              refine ta_ 0 44 HT_ HW_ hHeld ?_
              refine ta_ 2 46 HT_ HW_ hHeld ?_
              refine pu_ 4 48 HT_ ?_
              refine pu_ 5 49 HT_ ?_
              refine ta_ 6 50 HT_ HW_ hHeld ?_
              refine on_ 7 51 HT_ (fun K hK => ?_)
              refine gr_ 51 Tryz.func29 (spec_l4At.calls k3 _ _ l0_0 a0_1 ((rd_T63 ((rd_T47 l0_0 x3_2).f4) x5_3).f1) t252 _ (kC HR0_0) HC0_0.out A27.out) ?_
              rintro e w36 ⟨rfl, hb⟩
              refine ⟨_, rfl, ?_⟩
              replace BK243 := kb_ BK243 hb
              replace BK249 := kb_ BK249 hb
              replace HB := Aside0.mk (below_step oB hb)
              refine hk_ hK 51 oH (fun hHeld => ?_)
              clear hK K
              refine pu_ 8 52 HT_ ?_
              refine dn_ HT_ ?_
              try go_wp2
              go_roundg k3
              case measure => have := HJ1.out; have := HK2.out; have := HK3.out; omega
              case rel => exact ⟨(wrap64 (x5_3 + 1)), oS, H', ⟨by have := HJ1.out; have := HK2.out; have := HK3.out; omega⟩, ⟨oF BK243⟩, ⟨oF BK249⟩, ⟨oB⟩⟩
            ·cases H
           ·have H' := Aside0.mk H
            clear H
            have hnb37 := NB249_243.out
            have hnc37 := NB243_249.out
            obtain ⟨⟨_, _, _, _, _, _⟩, _, _, _, _, _, _⟩ := z6 BK249
            go_wp2
            go_roundg k3
            case measure => have := HJ1.out; have := HK2.out; have := HK3.out; omega
            case rel => exact ⟨(wrap64 (x3_2 + 1)), oS, H', ⟨by have := HJ1.out; have := HK2.out; have := HK3.out; omega⟩, ⟨oF BK243⟩, ⟨oB⟩⟩
        ·rw [if_neg c17] at H
         have c17b0 : (t250 == ((rd_T47 l0_0 x3_2).f2)) = false := beq_eq_false_iff_ne.mpr c17
         have c17b1 : (t250 != ((rd_T47 l0_0 x3_2).f2)) = true := bne_iff_ne.mpr c17
         obtain rfl := Option.some.inj H
         obtain ⟨⟨_, _⟩, _, _⟩ := z2 BK243
         have p248 : (0 ≤ (x3_2 : Int)) = True := oT
         have q248 : (x3_2 < (l0_0.length : Int)) = True := oT
         obtain ⟨ad248, A248_3, c248_3, A248_4, c248_4, A248_5, c248_5, e248, hx248_0, hx248_1, hx248_2, hx248_3, hx248_4, hx248_5, hl248_3, hi248_3, hl248_4, hi248_4, hl248_5, hi248_5⟩ := at_T47 HR0_0.out x3_2 oa oa
         cases e248
         replace hx248_0 := cB HB hx248_0
         replace hx248_1 := cB HB hx248_1
         replace hx248_2 := cB HB hx248_2
         replace hx248_3 := cB HB hx248_3
         replace hx248_4 := cB HB hx248_4
         replace hx248_5 := cB HB hx248_5
         have HR248_3 := Aside0.mk hi248_3
         have HC248_3 := Aside0.mk hl248_3
         clear hi248_3 hl248_3
         have HR248_4 := Aside0.mk hi248_4
         have HC248_4 := Aside0.mk hl248_4
         clear hi248_4 hl248_4
         have HR248_5 := Aside0.mk hi248_5
         have HC248_5 := Aside0.mk hl248_5
         clear hi248_5 hl248_5
         try go_wp2_with (first | ((with_reducible refine gate_dst (N := 4) rfl ?_); (try (refine gate_guard (by rfl) ?_; dsimp only)); refine bx_ 4 #[.int .i64 0, .int .i64 0, .int .i64 0, .slice none 0 0, .slice none 0 0, .slice none 0 0] 47 ?_; intro gb249 hg w40 hbox hb; have BK249 := Aside0.mk (hbox); have GW249 := gs_ hg; have NB243_249 := nl_ hg BK243; have NB249_243 := nr_ hg BK243; replace BK243 := kb_ BK243 hb; replace HB := Aside0.mk (below_step oB hb); clear hb hbox hg; have hnb41 := NB249_243.out; have hnc41 := NB243_249.out; obtain ⟨⟨_, _, _, _, _, _⟩, _, _, _, _, _, _⟩ := z6 BK249))
         generalize hW_ : ((((((w40.setCell ⟨gb249, 0, none⟩ (.int .i64 ((rd_T47 l0_0 x3_2).f0))).setCell ⟨gb249, 1, none⟩ (.int .i64 ((rd_T47 l0_0 x3_2).f1))).setCell ⟨gb249, 2, none⟩ (.int .i64 ((rd_T47 l0_0 x3_2).f2))).setCell ⟨gb249, 3, none⟩ (.slice A248_3 ((rd_T47 l0_0 x3_2).f3).length c248_3)).setCell ⟨gb249, 4, none⟩ (.slice A248_4 ((rd_T47 l0_0 x3_2).f4).length c248_4)).setCell ⟨gb249, 5, none⟩ (.slice A248_5 ((rd_T47 l0_0 x3_2).f5).length c248_5)) = w43
         replace BK243 := kw_ hW_ BK243
         replace BK249 := kv_ #[.int .i64 ((rd_T47 l0_0 x3_2).f0), .int .i64 ((rd_T47 l0_0 x3_2).f1), .int .i64 ((rd_T47 l0_0 x3_2).f2), .slice A248_3 ((rd_T47 l0_0 x3_2).f3).length c248_3, .slice A248_4 ((rd_T47 l0_0 x3_2).f4).length c248_4, .slice A248_5 ((rd_T47 l0_0 x3_2).f5).length c248_5] hW_ BK249
         replace HB := hw_ hW_ HB
         clear hW_
         replace BK243 := Aside0.mk (blk_drew BK243.out)
         replace BK249 := Aside0.mk (blk_drew BK249.out)
         replace HB := Aside0.mk (below_drew1 HB.out)
         refine s0_ 7 (fun w' => w'.cell? ⟨gb243, 0, none⟩ = some (.slice (some ad248) l0_0.length c0_0) ∧ w'.cell? ⟨gb243, 1, none⟩ = some (.int .i64 a0_1) ∧ w'.cell? ⟨gb249, 0, none⟩ = some (.int .i64 ((rd_T47 l0_0 x3_2).f0)) ∧ w'.cell? ⟨gb249, 1, none⟩ = some (.int .i64 ((rd_T47 l0_0 x3_2).f1)) ∧ w'.cell? ⟨gb249, 2, none⟩ = some (.int .i64 ((rd_T47 l0_0 x3_2).f2)) ∧ w'.cell? ⟨gb249, 3, none⟩ = some (.slice A248_3 ((rd_T47 l0_0 x3_2).f3).length c248_3) ∧ w'.cell? ⟨gb249, 4, none⟩ = some (.slice A248_4 ((rd_T47 l0_0 x3_2).f4).length c248_4) ∧ w'.cell? ⟨gb249, 5, none⟩ = some (.slice A248_5 ((rd_T47 l0_0 x3_2).f5).length c248_5)) oH (fun hHeld => ?_)
         generalize w43.drew = w44 at BK243 BK249 HB hHeld ⊢
         refine p0_ 1 31 ?_
         refine p0_ 4 34 ?_
         refine t0_ 0 30 hHeld ?_
         refine t0_ 2 32 hHeld ?_
         refine t0_ 5 35 hHeld ?_
         refine o0_ 3 33 (fun K hK => ?_)
         refine gr_ 33 Tryz.func28 (spec_LinksOf.calls k2 _ _ l0_0 a0_1 ((rd_T47 l0_0 x3_2).f0) t250 _ (kC HR0_0) HC0_0.out A16.out) ?_
         rintro e w45 ⟨rfl, hb⟩
         refine ⟨_, rfl, ?_⟩
         replace BK243 := kb_ BK243 hb
         replace BK249 := kb_ BK249 hb
         replace HB := Aside0.mk (below_step oB hb)
         refine hk_ hK 33 oH (fun hHeld => ?_)
         clear hK K
         refine p0_ 6 36 ?_
         refine done_ (by kernel_rfl) ?_
         try go_wp2
         go_ret
         exact ⟨oE, oB⟩
       ·cases H
      ·obtain rfl := Option.some.inj H
       obtain ⟨⟨_, _⟩, _, _⟩ := z2 BK243
       go_wp2
       go_ret
       exact ⟨oE, oB⟩

end Go.Proofs.YtolkhimbfegkkaaGreat.P
