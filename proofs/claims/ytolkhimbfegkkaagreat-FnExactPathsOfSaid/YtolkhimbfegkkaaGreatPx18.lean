-- By this session's own program (wip/myprint.py) out of the translation; Lean checks it.
import Derived.Test.YtolkhimbfegkkaaGreatPx0
import Derived.Test.YtolkhimbfegkkaaGreatPx4
import Derived.Test.YtolkhimbfegkkaaGreatPx16
namespace Go.Proofs.YtolkhimbfegkkaaGreat.P
open Go.RowKit Go.Proofs.YtolkhimbfegkkaaGreatW.PrintWords Go.Proofs.YtolkhimbfegkkaaGreatW.PrintLast Go.Proofs.YtolkhimbfegkkaaGreatW.PrintMore
attribute [local go_sem] max2_int min2_int max_two min_two max_three min_three max_four min_four   -- for this text's walks alone
set_option linter.unusedVariables false
set_option linter.unusedSimpArgs false

/-! ### spec_TabOk: function 26 -/
mutual
def spec_TabOk.j0 : Nat → Bool → List (S47) → Int → Option (Bool)
 | 0, _, _, _ => none
 | k + 1, x15, x136000, x136001 => if x15 = true then (some false) else (spec_TabOk.l0 k 0 x136000 x136001)
def spec_TabOk.l0 : Nat → Int → List (S47) → Int → Option (Bool)
 | 0, _, _, _ => none
 | k + 1, x3, x136000, x136001 => if x3 < (x136000.length : Int) then (if 0 ≤ x3 then ((spec_InodeOk.f k ((rd_T47 x136000 x3).f0) ((rd_T47 x136000 x3).f1) ((rd_T47 x136000 x3).f2) ((rd_T47 x136000 x3).f3) ((rd_T47 x136000 x3).f4) ((rd_T47 x136000 x3).f5)).bind fun t140 => (if t140 = true then (if ((rd_T47 x136000 x3).f0) ≥ x136001 then (some false) else (if x3 > 0 then (if 0 ≤ (wrap64 (x3 - 1)) then (if (wrap64 (x3 - 1)) < (x136000.length : Int) then (if ((rd_T47 x136000 (wrap64 (x3 - 1))).f0) ≥ ((rd_T47 x136000 x3).f0) then (some false) else (spec_TabOk.l0 k (wrap64 (x3 + 1)) x136000 x136001)) else (none)) else (none)) else (spec_TabOk.l0 k (wrap64 (x3 + 1)) x136000 x136001))) else (some false))) else (none)) else (if 0 < (x136000.length : Int) then (if ((rd_T47 x136000 0).f0) = 1 then (some (((rd_T47 x136000 0).f1) == 2)) else (some false)) else (none))
end
def spec_TabOk.f (k : Nat) (l0_0 : List (S47)) (a0_1 : Int) : Option (Bool) := (spec_l1In.f (l0_0.length : Int) 1 30).bind fun t136 => (if t136 = true then ((spec_l1In.f a0_1 2 1000).bind fun t137 => (spec_TabOk.j0 k (!t137) l0_0 a0_1)) else (spec_TabOk.j0 k true l0_0 a0_1))
def spec_TabOk.T7 : Bool × List (List Nat × List Nat) := (true, [([], []), ([0], [0]), ([1], [1]), ([2, 1], [2]), ([3], [3]), ([4, 3], [3, 4]), ([3], [3]), ([6, 3], [3, 6]), ([5, 7, 3], [3, 5, 7]), ([3, 8], [3, 8]), ([9, 3], [9]), ([10], [10]), ([11, 10], [10, 11]), ([12, 10, 10], [10, 12]), ([13], [13]), ([14, 13], [13, 14]), ([13], [13]), ([16, 13], [13, 16]), ([15, 17, 13], [13, 15, 17]), ([18, 13], [13, 18]), ([19, 13], [13, 19]), ([13], [13]), ([21, 13], [13, 21]), ([20, 22, 13], [13, 20, 22]), ([13, 23, 10], [10, 13, 23]), ([10, 24], [10, 24])])
def spec_TabOk.B7 : List Nat := [0, 1, 3, 7, 15, 31, 15, 79, 255, 511, 1023, 2047, 4095, 8191, 16383, 32767, 16383, 81919, 262143, 524287, 1048575, 16383, 2113535, 8388607, 16777215, 33554431]
theorem spec_TabOk.tab7 : rtab .any (opsOf Tryz.f26 7) = spec_TabOk.T7 := by kernel_rfl
theorem spec_TabOk.bits7 : waitsOk spec_TabOk.T7.2 spec_TabOk.B7 = true := by kernel_rfl
set_option maxHeartbeats 8000000 in
set_option maxRecDepth 100000 in
theorem spec_TabOk.calls (k : Nat) (A0_0 : Option Addr) (c0_0 : Nat) (l0_0 : List (S47)) (a0_1 : Int) (r : Bool) (w : World) (hr0_0 : Kd.C k47 w A0_0 l0_0.length l0_0) (hc0_0 : l0_0.length ≤ c0_0) (h : spec_TabOk.f k l0_0 a0_1 = some r) :
  Calls Tryz.prog 26 #[.agg #[.slice A0_0 l0_0.length c0_0, .int .i64 a0_1]] w fun e w' => e = .returned (.bool r) ∧ Below w.heap.size w w' := by
 have hu30 := Tryz.underlying30
 have hu47 := Tryz.underlying47
 have HR0_0 := Aside0.mk hr0_0
 have HC0_0 := Aside0.mk hc0_0
 clear hr0_0 hc0_0
 have HB := Aside0.mk (Below.refl w.heap.size w)
 unfold spec_TabOk.f at h
 have H := h
 clear h
 have HC2 := Aside0.mk H
 clear H
 go_enter Tryz.func26, Tryz.ntmps26
 go_upto_region 1 with (first | ((with_reducible refine gate_dst (N := 1) rfl ?_); refine bx_ 1 #[.slice A0_0 l0_0.length c0_0, .int .i64 a0_1] 30 ?_; intro gb135 hg w3 hbox hb; have BK135 := Aside0.mk (hbox); have GW135 := gs_ hg; replace HB := Aside0.mk (below_step oB hb); clear hb hbox hg))
 (try simp only [Act.put, List.setIfInBounds_toArray, List.set_cons_zero, List.set_cons_succ])
 go_cut [15] (fun v15 wc => ∃ (kq : Nat) (x15_1 : Bool), v15 = .bool x15_1 ∧ Aside0 (spec_TabOk.j0 kq x15_1 l0_0 a0_1 = some r) ∧ Aside0 (kq ≤ k) ∧ Aside0 (wc.heap[gb135]? = some (.cells #[(.slice A0_0 l0_0.length c0_0), .int .i64 a0_1] 30 (0, 0))) ∧ Aside0 (Below w.heap.size w wc))
 case first =>
  have H := HC2.out
  clear HC2
  replace H := bA H
  obtain ⟨t136, A4, H⟩ := H
  try dsimp only at H
  replace H := itB H
  rcases H with ⟨rfl, H⟩ | ⟨rfl, H⟩
  ·replace H := bA H
   obtain ⟨t137, A6, H⟩ := H
   try dsimp only at H
   have H' := Aside0.mk H
   clear H
   obtain ⟨⟨_, _⟩, _, _⟩ := z2 BK135
   go_wp2_with (first | ((with_reducible refine gate_callee (f := 46) rfl ?_); refine gl_ 8 Tryz.func46 (spec_l1In.calls (l0_0.length : Int) 1 30 true _ A4.out) ?_; rintro e w' ⟨rfl, ⟨nd, rfl⟩⟩; refine ⟨_, rfl, ?_⟩) | (go_at_call 46; (with_reducible refine (spec_l1In.calls a0_1 2 1000 t137 _ A6.out).mono ?_); rintro e w' ⟨rfl, ⟨nd, rfl⟩⟩))
   go_meet
   case rel => exact ⟨_, (!t137), oS, H', ⟨by first | omega | exact Nat.le_refl _⟩, ⟨oF BK135⟩, ⟨oB⟩⟩
  ·have H' := Aside0.mk H
   clear H
   obtain ⟨⟨_, _⟩, _, _⟩ := z2 BK135
   go_wp2_with (first | ((with_reducible refine gate_callee (f := 46) rfl ?_); refine gl_ 8 Tryz.func46 (spec_l1In.calls (l0_0.length : Int) 1 30 false _ A4.out) ?_; rintro e w' ⟨rfl, ⟨nd, rfl⟩⟩; refine ⟨_, rfl, ?_⟩))
   go_meet
   case rel => exact ⟨_, (true), oS, H', ⟨by first | omega | exact Nat.le_refl _⟩, ⟨oF BK135⟩, ⟨oB⟩⟩
 case rest =>
  clear HC2
  obtain ⟨kq, x15_1, rfl, HA, HJ1, BK135, HB⟩ := hcut
  cases kq with
  | zero => exact absurd HA.out (by simp [spec_TabOk.j0])
  | succ kj1 =>
   have H := HA.out
   clear HA
   simp only [spec_TabOk.j0] at H
   replace H := itB H
   rcases H with ⟨rfl, H⟩ | ⟨rfl, H⟩
   ·obtain rfl := Option.some.inj H
    go_wp2
    go_ret
    exact ⟨oE, oB⟩
   ·have H' := Aside0.mk H
    clear H
    go_wp2
    go_loopg [3] kj1 (fun kq v3 w' => ∃ (x3_2 : Int), v3 = .int .i64 x3_2 ∧ Aside0 (spec_TabOk.l0 kq x3_2 l0_0 a0_1 = some r) ∧ Aside0 (kq ≤ kj1) ∧ Aside0 (w'.heap[gb135]? = some (.cells #[(.slice A0_0 l0_0.length c0_0), .int .i64 a0_1] 30 (0, 0))) ∧ Aside0 (Below w.heap.size w w'))
    case atStart => exact ⟨(0), oS, H', ⟨Nat.le_refl _⟩, ⟨oF BK135⟩, ⟨oB⟩⟩
    case round =>
     clear H'
     obtain ⟨x3_2, rfl, HA, HK2, BK135, HB⟩ := hrel
     cases gk with
     | zero => exact absurd HA.out (by simp [spec_TabOk.l0])
     | succ k2 =>
      have H := HA.out
      clear HA
      simp only [spec_TabOk.l0] at H
      replace H := itD H
      rcases H with ⟨c10b0, H⟩ | ⟨c10b0, H⟩
      ·replace H := itD H
       rcases H with ⟨c11b0, H⟩ | ⟨c11b0, H⟩
       ·replace H := bA H
        obtain ⟨t140, A12, H⟩ := H
        try dsimp only at H
        replace H := itB H
        rcases H with ⟨rfl, H⟩ | ⟨rfl, H⟩
        ·replace H := itH H
         rcases H with ⟨c14b0, H⟩ | ⟨c14b0, H⟩
         ·obtain rfl := Option.some.inj H
          obtain ⟨⟨_, _⟩, _, _⟩ := z2 BK135
          have p138 : (0 ≤ (x3_2 : Int)) = True := oT
          have q138 : (x3_2 < (l0_0.length : Int)) = True := oT
          obtain ⟨ad138, A138_3, c138_3, A138_4, c138_4, A138_5, c138_5, e138, hx138_0, hx138_1, hx138_2, hx138_3, hx138_4, hx138_5, hl138_3, hi138_3, hl138_4, hi138_4, hl138_5, hi138_5⟩ := at_T47 HR0_0.out x3_2 oa oa
          cases e138
          replace hx138_0 := cB HB hx138_0
          replace hx138_1 := cB HB hx138_1
          replace hx138_2 := cB HB hx138_2
          replace hx138_3 := cB HB hx138_3
          replace hx138_4 := cB HB hx138_4
          replace hx138_5 := cB HB hx138_5
          have HR138_3 := Aside0.mk hi138_3
          have HC138_3 := Aside0.mk hl138_3
          clear hi138_3 hl138_3
          have HR138_4 := Aside0.mk hi138_4
          have HC138_4 := Aside0.mk hl138_4
          clear hi138_4 hl138_4
          have HR138_5 := Aside0.mk hi138_5
          have HC138_5 := Aside0.mk hl138_5
          clear hi138_5 hl138_5
          try go_wp2_with (first | ((with_reducible refine gate_dst (N := 4) rfl ?_); refine bx_ 4 #[.int .i64 0, .int .i64 0, .int .i64 0, .slice none 0 0, .slice none 0 0, .slice none 0 0] 47 ?_; intro gb139 hg w16 hbox hb; have BK139 := Aside0.mk (hbox); have GW139 := gs_ hg; have NB135_139 := nl_ hg BK135; have NB139_135 := nr_ hg BK135; replace BK135 := kb_ BK135 hb; replace HB := Aside0.mk (below_step oB hb); clear hb hbox hg; have hnb17 := NB139_135.out; have hnc17 := NB135_139.out; obtain ⟨⟨_, _, _, _, _, _⟩, _, _, _, _, _, _⟩ := z6 BK139))
          generalize hW_ : ((((((w16.setCell ⟨gb139, 0, none⟩ (.int .i64 ((rd_T47 l0_0 x3_2).f0))).setCell ⟨gb139, 1, none⟩ (.int .i64 ((rd_T47 l0_0 x3_2).f1))).setCell ⟨gb139, 2, none⟩ (.int .i64 ((rd_T47 l0_0 x3_2).f2))).setCell ⟨gb139, 3, none⟩ (.slice A138_3 ((rd_T47 l0_0 x3_2).f3).length c138_3)).setCell ⟨gb139, 4, none⟩ (.slice A138_4 ((rd_T47 l0_0 x3_2).f4).length c138_4)).setCell ⟨gb139, 5, none⟩ (.slice A138_5 ((rd_T47 l0_0 x3_2).f5).length c138_5)) = w19
          replace BK135 := kw_ hW_ BK135
          replace BK139 := kv_ #[.int .i64 ((rd_T47 l0_0 x3_2).f0), .int .i64 ((rd_T47 l0_0 x3_2).f1), .int .i64 ((rd_T47 l0_0 x3_2).f2), .slice A138_3 ((rd_T47 l0_0 x3_2).f3).length c138_3, .slice A138_4 ((rd_T47 l0_0 x3_2).f4).length c138_4, .slice A138_5 ((rd_T47 l0_0 x3_2).f5).length c138_5] hW_ BK139
          replace HB := hw_ hW_ HB
          clear hW_
          replace BK135 := Aside0.mk (blk_drew BK135.out)
          replace BK139 := Aside0.mk (blk_drew BK139.out)
          replace HB := Aside0.mk (below_drew1 HB.out)
          refine st_ 26 (fun w' => w'.cell? ⟨gb139, 0, none⟩ = some (.int .i64 ((rd_T47 l0_0 x3_2).f0)) ∧ w'.cell? ⟨gb139, 1, none⟩ = some (.int .i64 ((rd_T47 l0_0 x3_2).f1)) ∧ w'.cell? ⟨gb139, 2, none⟩ = some (.int .i64 ((rd_T47 l0_0 x3_2).f2)) ∧ w'.cell? ⟨gb139, 3, none⟩ = some (.slice A138_3 ((rd_T47 l0_0 x3_2).f3).length c138_3) ∧ w'.cell? ⟨gb139, 4, none⟩ = some (.slice A138_4 ((rd_T47 l0_0 x3_2).f4).length c138_4) ∧ w'.cell? ⟨gb139, 5, none⟩ = some (.slice A138_5 ((rd_T47 l0_0 x3_2).f5).length c138_5) ∧ w'.cell? ⟨gb135, 0, none⟩ = some (.slice (some ad138) l0_0.length c0_0) ∧ w'.cell? ⟨gb135, 1, none⟩ = some (.int .i64 a0_1)) spec_TabOk.tab7 spec_TabOk.bits7 oH (fun hHeld HT_ HW_ => ?_)
          generalize w19.drew = w20 at BK135 BK139 HB hHeld ⊢
          refine ta_ 0 28 HT_ HW_ hHeld ?_
          refine on_ 1 29 HT_ (fun K hK => ?_)
          refine gr_ 29 Tryz.func47 (spec_InodeOk.calls k2 ((rd_T47 l0_0 x3_2).f0) ((rd_T47 l0_0 x3_2).f1) ((rd_T47 l0_0 x3_2).f2) _ _ ((rd_T47 l0_0 x3_2).f3) _ _ ((rd_T47 l0_0 x3_2).f4) _ _ ((rd_T47 l0_0 x3_2).f5) true _ (kC HR138_3) HC138_3.out (kC HR138_4) HC138_4.out (kC HR138_5) HC138_5.out A12.out) ?_
          rintro e w21 ⟨rfl, hb⟩
          refine ⟨_, rfl, ?_⟩
          replace BK135 := kb_ BK135 hb
          replace BK139 := kb_ BK139 hb
          replace HB := Aside0.mk (below_step oB hb)
          refine hk_ hK 29 oH (fun hHeld => ?_)
          clear hK K
          refine pu_ 2 30 HT_ ?_
          refine pu_ 3 31 HT_ ?_
          refine pu_ 4 32 HT_ ?_
          refine pu_ 6 34 HT_ ?_
          refine ta_ 5 33 HT_ HW_ hHeld ?_
          refine ta_ 7 35 HT_ HW_ hHeld ?_
          refine pu_ 8 36 HT_ ?_
          refine pu_ 9 37 HT_ ?_
          refine pu_ 10 38 HT_ ?_
          refine pn_ 11 39 HT_ ?_
          refine pn_ 12 40 HT_ ?_
          refine pn_ 13 41 HT_ ?_
          refine pn_ 14 42 HT_ ?_
          refine pn_ 15 43 HT_ ?_
          refine pn_ 16 44 HT_ ?_
          refine pn_ 17 45 HT_ ?_
          refine pn_ 18 46 HT_ ?_
          refine pn_ 19 47 HT_ ?_
          refine pn_ 20 48 HT_ ?_
          refine pn_ 21 49 HT_ ?_
          refine pn_ 22 50 HT_ ?_
          refine pn_ 23 51 HT_ ?_
          refine pn_ 24 52 HT_ ?_
          refine pu_ 25 53 HT_ ?_
          refine dn_ HT_ ?_
          try go_wp2
          go_ret
          exact ⟨oE, oB⟩
         ·replace H := itG H
          rcases H with ⟨c22b0, H⟩ | ⟨c22b0, H⟩
          ·obtain ⟨ji23, hji23⟩ : ∃ j_ : Int, (wrap64 (x3_2 - 1)) = j_ := ⟨_, rfl⟩
           replace H : (if 0 ≤ (ji23) then (if (ji23) < (l0_0.length : Int) then (if ((rd_T47 l0_0 (ji23)).f0) ≥ ((rd_T47 l0_0 x3_2).f0) then (some false) else (spec_TabOk.l0 k2 (wrap64 (x3_2 + 1)) l0_0 a0_1)) else (none)) else (none)) = some r := by first | (rw [hji23] at H; exact H) | (simp only [hji23] at H ⊢; exact H)
           (try rw [hji23] at A12)
           have hji23w : (IntKind.i64.wrap (x3_2 - 1)) = ji23 := (i64_w _).trans hji23
           replace H := itD H
           rcases H with ⟨c24b0, H⟩ | ⟨c24b0, H⟩
           ·replace H := itD H
            rcases H with ⟨c25b0, H⟩ | ⟨c25b0, H⟩
            ·replace H := itH H
             rcases H with ⟨c26b0, H⟩ | ⟨c26b0, H⟩
             ·obtain rfl := Option.some.inj H
              obtain ⟨⟨_, _⟩, _, _⟩ := z2 BK135
              have p138 : (0 ≤ (x3_2 : Int)) = True := oT
              have q138 : (x3_2 < (l0_0.length : Int)) = True := oT
              obtain ⟨ad138, A138_3, c138_3, A138_4, c138_4, A138_5, c138_5, e138, hx138_0, hx138_1, hx138_2, hx138_3, hx138_4, hx138_5, hl138_3, hi138_3, hl138_4, hi138_4, hl138_5, hi138_5⟩ := at_T47 HR0_0.out x3_2 oa oa
              cases e138
              replace hx138_0 := cB HB hx138_0
              replace hx138_1 := cB HB hx138_1
              replace hx138_2 := cB HB hx138_2
              replace hx138_3 := cB HB hx138_3
              replace hx138_4 := cB HB hx138_4
              replace hx138_5 := cB HB hx138_5
              have HR138_3 := Aside0.mk hi138_3
              have HC138_3 := Aside0.mk hl138_3
              clear hi138_3 hl138_3
              have HR138_4 := Aside0.mk hi138_4
              have HC138_4 := Aside0.mk hl138_4
              clear hi138_4 hl138_4
              have HR138_5 := Aside0.mk hi138_5
              have HC138_5 := Aside0.mk hl138_5
              clear hi138_5 hl138_5
              try go_wp2_with (first | ((with_reducible refine gate_dst (N := 4) rfl ?_); refine bx_ 4 #[.int .i64 0, .int .i64 0, .int .i64 0, .slice none 0 0, .slice none 0 0, .slice none 0 0] 47 ?_; intro gb139 hg w28 hbox hb; have BK139 := Aside0.mk (hbox); have GW139 := gs_ hg; have NB135_139 := nl_ hg BK135; have NB139_135 := nr_ hg BK135; replace BK135 := kb_ BK135 hb; replace HB := Aside0.mk (below_step oB hb); clear hb hbox hg; have hnb29 := NB139_135.out; have hnc29 := NB135_139.out; obtain ⟨⟨_, _, _, _, _, _⟩, _, _, _, _, _, _⟩ := z6 BK139))
              generalize hW_ : ((((((w28.setCell ⟨gb139, 0, none⟩ (.int .i64 ((rd_T47 l0_0 x3_2).f0))).setCell ⟨gb139, 1, none⟩ (.int .i64 ((rd_T47 l0_0 x3_2).f1))).setCell ⟨gb139, 2, none⟩ (.int .i64 ((rd_T47 l0_0 x3_2).f2))).setCell ⟨gb139, 3, none⟩ (.slice A138_3 ((rd_T47 l0_0 x3_2).f3).length c138_3)).setCell ⟨gb139, 4, none⟩ (.slice A138_4 ((rd_T47 l0_0 x3_2).f4).length c138_4)).setCell ⟨gb139, 5, none⟩ (.slice A138_5 ((rd_T47 l0_0 x3_2).f5).length c138_5)) = w31
              replace BK135 := kw_ hW_ BK135
              replace BK139 := kv_ #[.int .i64 ((rd_T47 l0_0 x3_2).f0), .int .i64 ((rd_T47 l0_0 x3_2).f1), .int .i64 ((rd_T47 l0_0 x3_2).f2), .slice A138_3 ((rd_T47 l0_0 x3_2).f3).length c138_3, .slice A138_4 ((rd_T47 l0_0 x3_2).f4).length c138_4, .slice A138_5 ((rd_T47 l0_0 x3_2).f5).length c138_5] hW_ BK139
              replace HB := hw_ hW_ HB
              clear hW_
              replace BK135 := Aside0.mk (blk_drew BK135.out)
              replace BK139 := Aside0.mk (blk_drew BK139.out)
              replace HB := Aside0.mk (below_drew1 HB.out)
              have p141 : (0 ≤ ((ji23) : Int)) = True := oT
              have q141 : ((ji23) < (l0_0.length : Int)) = True := oT
              obtain ⟨ad141, A141_3, c141_3, A141_4, c141_4, A141_5, c141_5, e141, hx141_0, hx141_1, hx141_2, hx141_3, hx141_4, hx141_5, hl141_3, hi141_3, hl141_4, hi141_4, hl141_5, hi141_5⟩ := at_T47 HR0_0.out (ji23) oa oa
              have hw141_5 := hx141_5
              have hw141_4 := hx141_4
              have hw141_3 := hx141_3
              have hw141_2 := hx141_2
              have hw141_1 := hx141_1
              have hw141_0 := hx141_0
              obtain rfl : ad138 = ad141 := (by injection e141)
              replace hx141_0 := cB HB hx141_0
              replace hx141_1 := cB HB hx141_1
              replace hx141_2 := cB HB hx141_2
              replace hx141_3 := cB HB hx141_3
              replace hx141_4 := cB HB hx141_4
              replace hx141_5 := cB HB hx141_5
              have HR141_3 := Aside0.mk hi141_3
              have HC141_3 := Aside0.mk hl141_3
              clear hi141_3 hl141_3
              have HR141_4 := Aside0.mk hi141_4
              have HC141_4 := Aside0.mk hl141_4
              clear hi141_4 hl141_4
              have HR141_5 := Aside0.mk hi141_5
              have HC141_5 := Aside0.mk hl141_5
              clear hi141_5 hl141_5
              refine st_ 26 (fun w' => w'.cell? ⟨gb139, 0, none⟩ = some (.int .i64 ((rd_T47 l0_0 x3_2).f0)) ∧ w'.cell? ⟨gb139, 1, none⟩ = some (.int .i64 ((rd_T47 l0_0 x3_2).f1)) ∧ w'.cell? ⟨gb139, 2, none⟩ = some (.int .i64 ((rd_T47 l0_0 x3_2).f2)) ∧ w'.cell? ⟨gb139, 3, none⟩ = some (.slice A138_3 ((rd_T47 l0_0 x3_2).f3).length c138_3) ∧ w'.cell? ⟨gb139, 4, none⟩ = some (.slice A138_4 ((rd_T47 l0_0 x3_2).f4).length c138_4) ∧ w'.cell? ⟨gb139, 5, none⟩ = some (.slice A138_5 ((rd_T47 l0_0 x3_2).f5).length c138_5) ∧ w'.cell? ⟨gb135, 0, none⟩ = some (.slice (some ad138) l0_0.length c0_0) ∧ w'.cell? ⟨gb135, 1, none⟩ = some (.int .i64 a0_1) ∧ w'.cell? (ad138.add (((ji23)).toNat * 6)) = some (.int .i64 ((rd_T47 l0_0 (ji23)).f0)) ∧ w'.cell? ⟨(ad138.add (((ji23)).toNat * 6)).block, (ad138.add (((ji23)).toNat * 6)).off + 1, none⟩ = some (.int .i64 ((rd_T47 l0_0 (ji23)).f1)) ∧ w'.cell? ⟨(ad138.add (((ji23)).toNat * 6)).block, (ad138.add (((ji23)).toNat * 6)).off + 2, none⟩ = some (.int .i64 ((rd_T47 l0_0 (ji23)).f2)) ∧ w'.cell? ⟨(ad138.add (((ji23)).toNat * 6)).block, (ad138.add (((ji23)).toNat * 6)).off + 3, none⟩ = some (.slice A141_3 ((rd_T47 l0_0 (ji23)).f3).length c141_3) ∧ w'.cell? ⟨(ad138.add (((ji23)).toNat * 6)).block, (ad138.add (((ji23)).toNat * 6)).off + 4, none⟩ = some (.slice A141_4 ((rd_T47 l0_0 (ji23)).f4).length c141_4) ∧ w'.cell? ⟨(ad138.add (((ji23)).toNat * 6)).block, (ad138.add (((ji23)).toNat * 6)).off + 5, none⟩ = some (.slice A141_5 ((rd_T47 l0_0 (ji23)).f5).length c141_5)) spec_TabOk.tab7 spec_TabOk.bits7 oH (fun hHeld HT_ HW_ => ?_)
              generalize w31.drew = w32 at BK135 BK139 HB HR141_3 HR141_4 HR141_5 hx141_0 hx141_1 hx141_2 hx141_3 hx141_4 hx141_5 hHeld ⊢
              refine ta_ 0 28 HT_ HW_ hHeld ?_
              refine on_ 1 29 HT_ (fun K hK => ?_)
              refine gr_ 29 Tryz.func47 (spec_InodeOk.calls k2 ((rd_T47 l0_0 x3_2).f0) ((rd_T47 l0_0 x3_2).f1) ((rd_T47 l0_0 x3_2).f2) _ _ ((rd_T47 l0_0 x3_2).f3) _ _ ((rd_T47 l0_0 x3_2).f4) _ _ ((rd_T47 l0_0 x3_2).f5) true _ (kC HR138_3) HC138_3.out (kC HR138_4) HC138_4.out (kC HR138_5) HC138_5.out A12.out) ?_
              rintro e w33 ⟨rfl, hb⟩
              refine ⟨_, rfl, ?_⟩
              replace BK135 := kb_ BK135 hb
              replace BK139 := kb_ BK139 hb
              replace HB := Aside0.mk (below_step oB hb)
              refine hk_ hK 29 oH (fun hHeld => ?_)
              clear hK K
              refine pu_ 2 30 HT_ ?_
              refine pu_ 3 31 HT_ ?_
              refine pu_ 4 32 HT_ ?_
              refine pu_ 6 34 HT_ ?_
              refine ta_ 5 33 HT_ HW_ hHeld ?_
              refine ta_ 7 35 HT_ HW_ hHeld ?_
              refine pu_ 8 36 HT_ ?_
              refine pu_ 9 37 HT_ ?_
              refine pu_ 10 38 HT_ ?_
              refine pu_ 11 39 HT_ ?_
              refine pu_ 12 40 HT_ ?_
              refine pu_ 13 41 HT_ ?_
              refine pu_ 14 42 HT_ ?_
              refine pu_ 16 44 HT_ ?_
              refine pu_ 17 45 HT_ ?_
              refine pu_ 21 49 HT_ ?_
              refine ta_ 15 43 HT_ HW_ hHeld ?_
              refine pu_ 18 46 HT_ ?_
              refine pu_ 19 47 HT_ ?_
              refine ta_ 20 48 HT_ HW_ hHeld ?_
              refine ta_ 22 50 HT_ HW_ hHeld ?_
              refine pu_ 23 51 HT_ ?_
              refine pu_ 24 52 HT_ ?_
              refine pu_ 25 53 HT_ ?_
              refine dn_ HT_ ?_
              try go_wp2
              go_ret
              exact ⟨by first | rfl | (simp [errW_none, errW_some] <;> rfl) | (simp only [← hji23]; first | rfl | (simp [errW_none, errW_some] <;> rfl)) | (simp [*, errW_none, errW_some] <;> rfl), oB⟩
             ·have H' := Aside0.mk H
              clear H
              obtain ⟨⟨_, _⟩, _, _⟩ := z2 BK135
              have p138 : (0 ≤ (x3_2 : Int)) = True := oT
              have q138 : (x3_2 < (l0_0.length : Int)) = True := oT
              obtain ⟨ad138, A138_3, c138_3, A138_4, c138_4, A138_5, c138_5, e138, hx138_0, hx138_1, hx138_2, hx138_3, hx138_4, hx138_5, hl138_3, hi138_3, hl138_4, hi138_4, hl138_5, hi138_5⟩ := at_T47 HR0_0.out x3_2 oa oa
              cases e138
              replace hx138_0 := cB HB hx138_0
              replace hx138_1 := cB HB hx138_1
              replace hx138_2 := cB HB hx138_2
              replace hx138_3 := cB HB hx138_3
              replace hx138_4 := cB HB hx138_4
              replace hx138_5 := cB HB hx138_5
              have HR138_3 := Aside0.mk hi138_3
              have HC138_3 := Aside0.mk hl138_3
              clear hi138_3 hl138_3
              have HR138_4 := Aside0.mk hi138_4
              have HC138_4 := Aside0.mk hl138_4
              clear hi138_4 hl138_4
              have HR138_5 := Aside0.mk hi138_5
              have HC138_5 := Aside0.mk hl138_5
              clear hi138_5 hl138_5
              try go_wp2_with (first | ((with_reducible refine gate_dst (N := 4) rfl ?_); refine bx_ 4 #[.int .i64 0, .int .i64 0, .int .i64 0, .slice none 0 0, .slice none 0 0, .slice none 0 0] 47 ?_; intro gb139 hg w35 hbox hb; have BK139 := Aside0.mk (hbox); have GW139 := gs_ hg; have NB135_139 := nl_ hg BK135; have NB139_135 := nr_ hg BK135; replace BK135 := kb_ BK135 hb; replace HB := Aside0.mk (below_step oB hb); clear hb hbox hg; have hnb36 := NB139_135.out; have hnc36 := NB135_139.out; obtain ⟨⟨_, _, _, _, _, _⟩, _, _, _, _, _, _⟩ := z6 BK139))
              generalize hW_ : ((((((w35.setCell ⟨gb139, 0, none⟩ (.int .i64 ((rd_T47 l0_0 x3_2).f0))).setCell ⟨gb139, 1, none⟩ (.int .i64 ((rd_T47 l0_0 x3_2).f1))).setCell ⟨gb139, 2, none⟩ (.int .i64 ((rd_T47 l0_0 x3_2).f2))).setCell ⟨gb139, 3, none⟩ (.slice A138_3 ((rd_T47 l0_0 x3_2).f3).length c138_3)).setCell ⟨gb139, 4, none⟩ (.slice A138_4 ((rd_T47 l0_0 x3_2).f4).length c138_4)).setCell ⟨gb139, 5, none⟩ (.slice A138_5 ((rd_T47 l0_0 x3_2).f5).length c138_5)) = w38
              replace BK135 := kw_ hW_ BK135
              replace BK139 := kv_ #[.int .i64 ((rd_T47 l0_0 x3_2).f0), .int .i64 ((rd_T47 l0_0 x3_2).f1), .int .i64 ((rd_T47 l0_0 x3_2).f2), .slice A138_3 ((rd_T47 l0_0 x3_2).f3).length c138_3, .slice A138_4 ((rd_T47 l0_0 x3_2).f4).length c138_4, .slice A138_5 ((rd_T47 l0_0 x3_2).f5).length c138_5] hW_ BK139
              replace HB := hw_ hW_ HB
              clear hW_
              replace BK135 := Aside0.mk (blk_drew BK135.out)
              replace BK139 := Aside0.mk (blk_drew BK139.out)
              replace HB := Aside0.mk (below_drew1 HB.out)
              have p141 : (0 ≤ ((ji23) : Int)) = True := oT
              have q141 : ((ji23) < (l0_0.length : Int)) = True := oT
              obtain ⟨ad141, A141_3, c141_3, A141_4, c141_4, A141_5, c141_5, e141, hx141_0, hx141_1, hx141_2, hx141_3, hx141_4, hx141_5, hl141_3, hi141_3, hl141_4, hi141_4, hl141_5, hi141_5⟩ := at_T47 HR0_0.out (ji23) oa oa
              have hw141_5 := hx141_5
              have hw141_4 := hx141_4
              have hw141_3 := hx141_3
              have hw141_2 := hx141_2
              have hw141_1 := hx141_1
              have hw141_0 := hx141_0
              obtain rfl : ad138 = ad141 := (by injection e141)
              replace hx141_0 := cB HB hx141_0
              replace hx141_1 := cB HB hx141_1
              replace hx141_2 := cB HB hx141_2
              replace hx141_3 := cB HB hx141_3
              replace hx141_4 := cB HB hx141_4
              replace hx141_5 := cB HB hx141_5
              have HR141_3 := Aside0.mk hi141_3
              have HC141_3 := Aside0.mk hl141_3
              clear hi141_3 hl141_3
              have HR141_4 := Aside0.mk hi141_4
              have HC141_4 := Aside0.mk hl141_4
              clear hi141_4 hl141_4
              have HR141_5 := Aside0.mk hi141_5
              have HC141_5 := Aside0.mk hl141_5
              clear hi141_5 hl141_5
              refine st_ 26 (fun w' => w'.cell? ⟨gb139, 0, none⟩ = some (.int .i64 ((rd_T47 l0_0 x3_2).f0)) ∧ w'.cell? ⟨gb139, 1, none⟩ = some (.int .i64 ((rd_T47 l0_0 x3_2).f1)) ∧ w'.cell? ⟨gb139, 2, none⟩ = some (.int .i64 ((rd_T47 l0_0 x3_2).f2)) ∧ w'.cell? ⟨gb139, 3, none⟩ = some (.slice A138_3 ((rd_T47 l0_0 x3_2).f3).length c138_3) ∧ w'.cell? ⟨gb139, 4, none⟩ = some (.slice A138_4 ((rd_T47 l0_0 x3_2).f4).length c138_4) ∧ w'.cell? ⟨gb139, 5, none⟩ = some (.slice A138_5 ((rd_T47 l0_0 x3_2).f5).length c138_5) ∧ w'.cell? ⟨gb135, 0, none⟩ = some (.slice (some ad138) l0_0.length c0_0) ∧ w'.cell? ⟨gb135, 1, none⟩ = some (.int .i64 a0_1) ∧ w'.cell? (ad138.add (((ji23)).toNat * 6)) = some (.int .i64 ((rd_T47 l0_0 (ji23)).f0)) ∧ w'.cell? ⟨(ad138.add (((ji23)).toNat * 6)).block, (ad138.add (((ji23)).toNat * 6)).off + 1, none⟩ = some (.int .i64 ((rd_T47 l0_0 (ji23)).f1)) ∧ w'.cell? ⟨(ad138.add (((ji23)).toNat * 6)).block, (ad138.add (((ji23)).toNat * 6)).off + 2, none⟩ = some (.int .i64 ((rd_T47 l0_0 (ji23)).f2)) ∧ w'.cell? ⟨(ad138.add (((ji23)).toNat * 6)).block, (ad138.add (((ji23)).toNat * 6)).off + 3, none⟩ = some (.slice A141_3 ((rd_T47 l0_0 (ji23)).f3).length c141_3) ∧ w'.cell? ⟨(ad138.add (((ji23)).toNat * 6)).block, (ad138.add (((ji23)).toNat * 6)).off + 4, none⟩ = some (.slice A141_4 ((rd_T47 l0_0 (ji23)).f4).length c141_4) ∧ w'.cell? ⟨(ad138.add (((ji23)).toNat * 6)).block, (ad138.add (((ji23)).toNat * 6)).off + 5, none⟩ = some (.slice A141_5 ((rd_T47 l0_0 (ji23)).f5).length c141_5)) spec_TabOk.tab7 spec_TabOk.bits7 oH (fun hHeld HT_ HW_ => ?_)
              generalize w38.drew = w39 at BK135 BK139 HB HR141_3 HR141_4 HR141_5 hx141_0 hx141_1 hx141_2 hx141_3 hx141_4 hx141_5 hHeld ⊢
              refine ta_ 0 28 HT_ HW_ hHeld ?_
              refine on_ 1 29 HT_ (fun K hK => ?_)
              refine gr_ 29 Tryz.func47 (spec_InodeOk.calls k2 ((rd_T47 l0_0 x3_2).f0) ((rd_T47 l0_0 x3_2).f1) ((rd_T47 l0_0 x3_2).f2) _ _ ((rd_T47 l0_0 x3_2).f3) _ _ ((rd_T47 l0_0 x3_2).f4) _ _ ((rd_T47 l0_0 x3_2).f5) true _ (kC HR138_3) HC138_3.out (kC HR138_4) HC138_4.out (kC HR138_5) HC138_5.out A12.out) ?_
              rintro e w40 ⟨rfl, hb⟩
              refine ⟨_, rfl, ?_⟩
              replace BK135 := kb_ BK135 hb
              replace BK139 := kb_ BK139 hb
              replace HB := Aside0.mk (below_step oB hb)
              refine hk_ hK 29 oH (fun hHeld => ?_)
              clear hK K
              refine pu_ 2 30 HT_ ?_
              refine pu_ 3 31 HT_ ?_
              refine pu_ 4 32 HT_ ?_
              refine pu_ 6 34 HT_ ?_
              refine ta_ 5 33 HT_ HW_ hHeld ?_
              refine ta_ 7 35 HT_ HW_ hHeld ?_
              refine pu_ 8 36 HT_ ?_
              refine pu_ 9 37 HT_ ?_
              refine pu_ 10 38 HT_ ?_
              refine pu_ 11 39 HT_ ?_
              refine pu_ 12 40 HT_ ?_
              refine pu_ 13 41 HT_ ?_
              refine pu_ 14 42 HT_ ?_
              refine pu_ 16 44 HT_ ?_
              refine pu_ 17 45 HT_ ?_
              refine pu_ 21 49 HT_ ?_
              refine ta_ 15 43 HT_ HW_ hHeld ?_
              refine pu_ 18 46 HT_ ?_
              refine pu_ 19 47 HT_ ?_
              refine ta_ 20 48 HT_ HW_ hHeld ?_
              refine ta_ 22 50 HT_ HW_ hHeld ?_
              refine pu_ 23 51 HT_ ?_
              refine pu_ 24 52 HT_ ?_
              refine pu_ 25 53 HT_ ?_
              refine dn_ HT_ ?_
              try go_wp2
              go_roundg k2
              case measure => have := HJ1.out; have := HK2.out; omega
              case rel => exact ⟨(wrap64 (x3_2 + 1)), oS, H', ⟨by have := HJ1.out; have := HK2.out; omega⟩, ⟨oF BK135⟩, ⟨oB⟩⟩
            ·cases H
           ·cases H
          ·have H' := Aside0.mk H
           clear H
           obtain ⟨⟨_, _⟩, _, _⟩ := z2 BK135
           have p138 : (0 ≤ (x3_2 : Int)) = True := oT
           have q138 : (x3_2 < (l0_0.length : Int)) = True := oT
           obtain ⟨ad138, A138_3, c138_3, A138_4, c138_4, A138_5, c138_5, e138, hx138_0, hx138_1, hx138_2, hx138_3, hx138_4, hx138_5, hl138_3, hi138_3, hl138_4, hi138_4, hl138_5, hi138_5⟩ := at_T47 HR0_0.out x3_2 oa oa
           cases e138
           replace hx138_0 := cB HB hx138_0
           replace hx138_1 := cB HB hx138_1
           replace hx138_2 := cB HB hx138_2
           replace hx138_3 := cB HB hx138_3
           replace hx138_4 := cB HB hx138_4
           replace hx138_5 := cB HB hx138_5
           have HR138_3 := Aside0.mk hi138_3
           have HC138_3 := Aside0.mk hl138_3
           clear hi138_3 hl138_3
           have HR138_4 := Aside0.mk hi138_4
           have HC138_4 := Aside0.mk hl138_4
           clear hi138_4 hl138_4
           have HR138_5 := Aside0.mk hi138_5
           have HC138_5 := Aside0.mk hl138_5
           clear hi138_5 hl138_5
           try go_wp2_with (first | ((with_reducible refine gate_dst (N := 4) rfl ?_); refine bx_ 4 #[.int .i64 0, .int .i64 0, .int .i64 0, .slice none 0 0, .slice none 0 0, .slice none 0 0] 47 ?_; intro gb139 hg w42 hbox hb; have BK139 := Aside0.mk (hbox); have GW139 := gs_ hg; have NB135_139 := nl_ hg BK135; have NB139_135 := nr_ hg BK135; replace BK135 := kb_ BK135 hb; replace HB := Aside0.mk (below_step oB hb); clear hb hbox hg; have hnb43 := NB139_135.out; have hnc43 := NB135_139.out; obtain ⟨⟨_, _, _, _, _, _⟩, _, _, _, _, _, _⟩ := z6 BK139))
           generalize hW_ : ((((((w42.setCell ⟨gb139, 0, none⟩ (.int .i64 ((rd_T47 l0_0 x3_2).f0))).setCell ⟨gb139, 1, none⟩ (.int .i64 ((rd_T47 l0_0 x3_2).f1))).setCell ⟨gb139, 2, none⟩ (.int .i64 ((rd_T47 l0_0 x3_2).f2))).setCell ⟨gb139, 3, none⟩ (.slice A138_3 ((rd_T47 l0_0 x3_2).f3).length c138_3)).setCell ⟨gb139, 4, none⟩ (.slice A138_4 ((rd_T47 l0_0 x3_2).f4).length c138_4)).setCell ⟨gb139, 5, none⟩ (.slice A138_5 ((rd_T47 l0_0 x3_2).f5).length c138_5)) = w45
           replace BK135 := kw_ hW_ BK135
           replace BK139 := kv_ #[.int .i64 ((rd_T47 l0_0 x3_2).f0), .int .i64 ((rd_T47 l0_0 x3_2).f1), .int .i64 ((rd_T47 l0_0 x3_2).f2), .slice A138_3 ((rd_T47 l0_0 x3_2).f3).length c138_3, .slice A138_4 ((rd_T47 l0_0 x3_2).f4).length c138_4, .slice A138_5 ((rd_T47 l0_0 x3_2).f5).length c138_5] hW_ BK139
           replace HB := hw_ hW_ HB
           clear hW_
           replace BK135 := Aside0.mk (blk_drew BK135.out)
           replace BK139 := Aside0.mk (blk_drew BK139.out)
           replace HB := Aside0.mk (below_drew1 HB.out)
           refine st_ 26 (fun w' => w'.cell? ⟨gb139, 0, none⟩ = some (.int .i64 ((rd_T47 l0_0 x3_2).f0)) ∧ w'.cell? ⟨gb139, 1, none⟩ = some (.int .i64 ((rd_T47 l0_0 x3_2).f1)) ∧ w'.cell? ⟨gb139, 2, none⟩ = some (.int .i64 ((rd_T47 l0_0 x3_2).f2)) ∧ w'.cell? ⟨gb139, 3, none⟩ = some (.slice A138_3 ((rd_T47 l0_0 x3_2).f3).length c138_3) ∧ w'.cell? ⟨gb139, 4, none⟩ = some (.slice A138_4 ((rd_T47 l0_0 x3_2).f4).length c138_4) ∧ w'.cell? ⟨gb139, 5, none⟩ = some (.slice A138_5 ((rd_T47 l0_0 x3_2).f5).length c138_5) ∧ w'.cell? ⟨gb135, 0, none⟩ = some (.slice (some ad138) l0_0.length c0_0) ∧ w'.cell? ⟨gb135, 1, none⟩ = some (.int .i64 a0_1)) spec_TabOk.tab7 spec_TabOk.bits7 oH (fun hHeld HT_ HW_ => ?_)
           generalize w45.drew = w46 at BK135 BK139 HB hHeld ⊢
           refine ta_ 0 28 HT_ HW_ hHeld ?_
           refine on_ 1 29 HT_ (fun K hK => ?_)
           refine gr_ 29 Tryz.func47 (spec_InodeOk.calls k2 ((rd_T47 l0_0 x3_2).f0) ((rd_T47 l0_0 x3_2).f1) ((rd_T47 l0_0 x3_2).f2) _ _ ((rd_T47 l0_0 x3_2).f3) _ _ ((rd_T47 l0_0 x3_2).f4) _ _ ((rd_T47 l0_0 x3_2).f5) true _ (kC HR138_3) HC138_3.out (kC HR138_4) HC138_4.out (kC HR138_5) HC138_5.out A12.out) ?_
           rintro e w47 ⟨rfl, hb⟩
           refine ⟨_, rfl, ?_⟩
           replace BK135 := kb_ BK135 hb
           replace BK139 := kb_ BK139 hb
           replace HB := Aside0.mk (below_step oB hb)
           refine hk_ hK 29 oH (fun hHeld => ?_)
           clear hK K
           refine pu_ 2 30 HT_ ?_
           refine pu_ 3 31 HT_ ?_
           refine pu_ 4 32 HT_ ?_
           refine pu_ 6 34 HT_ ?_
           refine ta_ 5 33 HT_ HW_ hHeld ?_
           refine ta_ 7 35 HT_ HW_ hHeld ?_
           refine pu_ 8 36 HT_ ?_
           refine pu_ 9 37 HT_ ?_
           refine pu_ 10 38 HT_ ?_
           refine pu_ 11 39 HT_ ?_
           refine pu_ 12 40 HT_ ?_
           refine pu_ 13 41 HT_ ?_
           refine pn_ 14 42 HT_ ?_
           refine pn_ 15 43 HT_ ?_
           refine pn_ 16 44 HT_ ?_
           refine pn_ 17 45 HT_ ?_
           refine pn_ 18 46 HT_ ?_
           refine pn_ 19 47 HT_ ?_
           refine pn_ 20 48 HT_ ?_
           refine pn_ 21 49 HT_ ?_
           refine pn_ 22 50 HT_ ?_
           refine pn_ 23 51 HT_ ?_
           refine pu_ 24 52 HT_ ?_
           refine pu_ 25 53 HT_ ?_
           refine dn_ HT_ ?_
           try go_wp2
           go_roundg k2
           case measure => have := HJ1.out; have := HK2.out; omega
           case rel => exact ⟨(wrap64 (x3_2 + 1)), oS, H', ⟨by have := HJ1.out; have := HK2.out; omega⟩, ⟨oF BK135⟩, ⟨oB⟩⟩
        ·obtain rfl := Option.some.inj H
         obtain ⟨⟨_, _⟩, _, _⟩ := z2 BK135
         have p138 : (0 ≤ (x3_2 : Int)) = True := oT
         have q138 : (x3_2 < (l0_0.length : Int)) = True := oT
         obtain ⟨ad138, A138_3, c138_3, A138_4, c138_4, A138_5, c138_5, e138, hx138_0, hx138_1, hx138_2, hx138_3, hx138_4, hx138_5, hl138_3, hi138_3, hl138_4, hi138_4, hl138_5, hi138_5⟩ := at_T47 HR0_0.out x3_2 oa oa
         cases e138
         replace hx138_0 := cB HB hx138_0
         replace hx138_1 := cB HB hx138_1
         replace hx138_2 := cB HB hx138_2
         replace hx138_3 := cB HB hx138_3
         replace hx138_4 := cB HB hx138_4
         replace hx138_5 := cB HB hx138_5
         have HR138_3 := Aside0.mk hi138_3
         have HC138_3 := Aside0.mk hl138_3
         clear hi138_3 hl138_3
         have HR138_4 := Aside0.mk hi138_4
         have HC138_4 := Aside0.mk hl138_4
         clear hi138_4 hl138_4
         have HR138_5 := Aside0.mk hi138_5
         have HC138_5 := Aside0.mk hl138_5
         clear hi138_5 hl138_5
         try go_wp2_with (first | ((with_reducible refine gate_dst (N := 4) rfl ?_); refine bx_ 4 #[.int .i64 0, .int .i64 0, .int .i64 0, .slice none 0 0, .slice none 0 0, .slice none 0 0] 47 ?_; intro gb139 hg w49 hbox hb; have BK139 := Aside0.mk (hbox); have GW139 := gs_ hg; have NB135_139 := nl_ hg BK135; have NB139_135 := nr_ hg BK135; replace BK135 := kb_ BK135 hb; replace HB := Aside0.mk (below_step oB hb); clear hb hbox hg; have hnb50 := NB139_135.out; have hnc50 := NB135_139.out; obtain ⟨⟨_, _, _, _, _, _⟩, _, _, _, _, _, _⟩ := z6 BK139))
         generalize hW_ : ((((((w49.setCell ⟨gb139, 0, none⟩ (.int .i64 ((rd_T47 l0_0 x3_2).f0))).setCell ⟨gb139, 1, none⟩ (.int .i64 ((rd_T47 l0_0 x3_2).f1))).setCell ⟨gb139, 2, none⟩ (.int .i64 ((rd_T47 l0_0 x3_2).f2))).setCell ⟨gb139, 3, none⟩ (.slice A138_3 ((rd_T47 l0_0 x3_2).f3).length c138_3)).setCell ⟨gb139, 4, none⟩ (.slice A138_4 ((rd_T47 l0_0 x3_2).f4).length c138_4)).setCell ⟨gb139, 5, none⟩ (.slice A138_5 ((rd_T47 l0_0 x3_2).f5).length c138_5)) = w52
         replace BK135 := kw_ hW_ BK135
         replace BK139 := kv_ #[.int .i64 ((rd_T47 l0_0 x3_2).f0), .int .i64 ((rd_T47 l0_0 x3_2).f1), .int .i64 ((rd_T47 l0_0 x3_2).f2), .slice A138_3 ((rd_T47 l0_0 x3_2).f3).length c138_3, .slice A138_4 ((rd_T47 l0_0 x3_2).f4).length c138_4, .slice A138_5 ((rd_T47 l0_0 x3_2).f5).length c138_5] hW_ BK139
         replace HB := hw_ hW_ HB
         clear hW_
         replace BK135 := Aside0.mk (blk_drew BK135.out)
         replace BK139 := Aside0.mk (blk_drew BK139.out)
         replace HB := Aside0.mk (below_drew1 HB.out)
         refine st_ 26 (fun w' => w'.cell? ⟨gb139, 0, none⟩ = some (.int .i64 ((rd_T47 l0_0 x3_2).f0)) ∧ w'.cell? ⟨gb139, 1, none⟩ = some (.int .i64 ((rd_T47 l0_0 x3_2).f1)) ∧ w'.cell? ⟨gb139, 2, none⟩ = some (.int .i64 ((rd_T47 l0_0 x3_2).f2)) ∧ w'.cell? ⟨gb139, 3, none⟩ = some (.slice A138_3 ((rd_T47 l0_0 x3_2).f3).length c138_3) ∧ w'.cell? ⟨gb139, 4, none⟩ = some (.slice A138_4 ((rd_T47 l0_0 x3_2).f4).length c138_4) ∧ w'.cell? ⟨gb139, 5, none⟩ = some (.slice A138_5 ((rd_T47 l0_0 x3_2).f5).length c138_5)) spec_TabOk.tab7 spec_TabOk.bits7 oH (fun hHeld HT_ HW_ => ?_)
         generalize w52.drew = w53 at BK135 BK139 HB hHeld ⊢
         refine ta_ 0 28 HT_ HW_ hHeld ?_
         refine on_ 1 29 HT_ (fun K hK => ?_)
         refine gr_ 29 Tryz.func47 (spec_InodeOk.calls k2 ((rd_T47 l0_0 x3_2).f0) ((rd_T47 l0_0 x3_2).f1) ((rd_T47 l0_0 x3_2).f2) _ _ ((rd_T47 l0_0 x3_2).f3) _ _ ((rd_T47 l0_0 x3_2).f4) _ _ ((rd_T47 l0_0 x3_2).f5) false _ (kC HR138_3) HC138_3.out (kC HR138_4) HC138_4.out (kC HR138_5) HC138_5.out A12.out) ?_
         rintro e w54 ⟨rfl, hb⟩
         refine ⟨_, rfl, ?_⟩
         replace BK135 := kb_ BK135 hb
         replace BK139 := kb_ BK139 hb
         replace HB := Aside0.mk (below_step oB hb)
         refine hk_ hK 29 oH (fun hHeld => ?_)
         clear hK K
         refine pu_ 2 30 HT_ ?_
         refine pu_ 3 31 HT_ ?_
         refine pn_ 4 32 HT_ ?_
         refine pn_ 5 33 HT_ ?_
         refine pn_ 6 34 HT_ ?_
         refine pn_ 7 35 HT_ ?_
         refine pn_ 8 36 HT_ ?_
         refine pu_ 9 37 HT_ ?_
         refine pu_ 10 38 HT_ ?_
         refine pn_ 11 39 HT_ ?_
         refine pn_ 12 40 HT_ ?_
         refine pn_ 13 41 HT_ ?_
         refine pn_ 14 42 HT_ ?_
         refine pn_ 15 43 HT_ ?_
         refine pn_ 16 44 HT_ ?_
         refine pn_ 17 45 HT_ ?_
         refine pn_ 18 46 HT_ ?_
         refine pn_ 19 47 HT_ ?_
         refine pn_ 20 48 HT_ ?_
         refine pn_ 21 49 HT_ ?_
         refine pn_ 22 50 HT_ ?_
         refine pn_ 23 51 HT_ ?_
         refine pn_ 24 52 HT_ ?_
         refine pu_ 25 53 HT_ ?_
         refine dn_ HT_ ?_
         try go_wp2
         go_ret
         exact ⟨oE, oB⟩
       ·cases H
      ·by_cases c55 : 0 < (l0_0.length : Int)
       ·rw [if_pos c55] at H
        have c55b0 : decide (0 < (l0_0.length : Int)) = true := decide_eq_true c55
        have c55b1 : decide (0 < l0_0.length) = true := decide_eq_true (by omega)
        clear c55
        by_cases c56 : ((rd_T47 l0_0 0).f0) = 1
        ·rw [if_pos c56] at H
         have c56b0 : (((rd_T47 l0_0 0).f0) == 1) = true := beq_iff_eq.mpr c56
         have c56b1 : (((rd_T47 l0_0 0).f0) != 1) = false := bne_eq_false_iff_eq.mpr c56
         clear c56
         obtain rfl := Option.some.inj H
         obtain ⟨⟨_, _⟩, _, _⟩ := z2 BK135
         have p142 : 0 ≤ (0 : Int) := (by omega)
         have q142 : 0 < (l0_0.length : Int) := oa
         obtain ⟨ad142, A142_3, c142_3, A142_4, c142_4, A142_5, c142_5, e142, hx142_0, hx142_1, hx142_2, hx142_3, hx142_4, hx142_5, hl142_3, hi142_3, hl142_4, hi142_4, hl142_5, hi142_5⟩ := at_T47 HR0_0.out 0 p142 q142
         cases e142
         have qi142 : (0 < l0_0.length) = True := eq_true (by omega)
         (try rw [show ((0 : Int)).toNat = 0 from rfl] at hx142_0)
         (try rw [show 0 * 6 = 0 from rfl] at hx142_0)
         (try rw [Addr.add_zero'] at hx142_0)
         (try rw [show ((0 : Int)).toNat = 0 from rfl] at hx142_1)
         (try rw [show 0 * 6 = 0 from rfl] at hx142_1)
         (try rw [Addr.add_zero'] at hx142_1)
         (try rw [show ((0 : Int)).toNat = 0 from rfl] at hx142_2)
         (try rw [show 0 * 6 = 0 from rfl] at hx142_2)
         (try rw [Addr.add_zero'] at hx142_2)
         (try rw [show ((0 : Int)).toNat = 0 from rfl] at hx142_3)
         (try rw [show 0 * 6 = 0 from rfl] at hx142_3)
         (try rw [Addr.add_zero'] at hx142_3)
         (try rw [show ((0 : Int)).toNat = 0 from rfl] at hx142_4)
         (try rw [show 0 * 6 = 0 from rfl] at hx142_4)
         (try rw [Addr.add_zero'] at hx142_4)
         (try rw [show ((0 : Int)).toNat = 0 from rfl] at hx142_5)
         (try rw [show 0 * 6 = 0 from rfl] at hx142_5)
         (try rw [Addr.add_zero'] at hx142_5)
         replace hx142_0 := cB HB hx142_0
         replace hx142_1 := cB HB hx142_1
         replace hx142_2 := cB HB hx142_2
         replace hx142_3 := cB HB hx142_3
         replace hx142_4 := cB HB hx142_4
         replace hx142_5 := cB HB hx142_5
         have HR142_3 := Aside0.mk hi142_3
         have HC142_3 := Aside0.mk hl142_3
         clear hi142_3 hl142_3
         have HR142_4 := Aside0.mk hi142_4
         have HC142_4 := Aside0.mk hl142_4
         clear hi142_4 hl142_4
         have HR142_5 := Aside0.mk hi142_5
         have HC142_5 := Aside0.mk hl142_5
         clear hi142_5 hl142_5
         replace p142 := eq_true p142
         replace q142 := eq_true q142
         have p143 : 0 ≤ (0 : Int) := (by omega)
         have q143 : 0 < (l0_0.length : Int) := oa
         obtain ⟨ad143, A143_3, c143_3, A143_4, c143_4, A143_5, c143_5, e143, hx143_0, hx143_1, hx143_2, hx143_3, hx143_4, hx143_5, hl143_3, hi143_3, hl143_4, hi143_4, hl143_5, hi143_5⟩ := at_T47 HR0_0.out 0 p143 q143
         obtain rfl : ad142 = ad143 := (by injection e143)
         have qi143 : (0 < l0_0.length) = True := eq_true (by omega)
         (try rw [show ((0 : Int)).toNat = 0 from rfl] at hx143_0)
         (try rw [show 0 * 6 = 0 from rfl] at hx143_0)
         (try rw [Addr.add_zero'] at hx143_0)
         (try rw [show ((0 : Int)).toNat = 0 from rfl] at hx143_1)
         (try rw [show 0 * 6 = 0 from rfl] at hx143_1)
         (try rw [Addr.add_zero'] at hx143_1)
         (try rw [show ((0 : Int)).toNat = 0 from rfl] at hx143_2)
         (try rw [show 0 * 6 = 0 from rfl] at hx143_2)
         (try rw [Addr.add_zero'] at hx143_2)
         (try rw [show ((0 : Int)).toNat = 0 from rfl] at hx143_3)
         (try rw [show 0 * 6 = 0 from rfl] at hx143_3)
         (try rw [Addr.add_zero'] at hx143_3)
         (try rw [show ((0 : Int)).toNat = 0 from rfl] at hx143_4)
         (try rw [show 0 * 6 = 0 from rfl] at hx143_4)
         (try rw [Addr.add_zero'] at hx143_4)
         (try rw [show ((0 : Int)).toNat = 0 from rfl] at hx143_5)
         (try rw [show 0 * 6 = 0 from rfl] at hx143_5)
         (try rw [Addr.add_zero'] at hx143_5)
         replace hx143_0 := cB HB hx143_0
         replace hx143_1 := cB HB hx143_1
         replace hx143_2 := cB HB hx143_2
         replace hx143_3 := cB HB hx143_3
         replace hx143_4 := cB HB hx143_4
         replace hx143_5 := cB HB hx143_5
         have HR143_3 := Aside0.mk hi143_3
         have HC143_3 := Aside0.mk hl143_3
         clear hi143_3 hl143_3
         have HR143_4 := Aside0.mk hi143_4
         have HC143_4 := Aside0.mk hl143_4
         clear hi143_4 hl143_4
         have HR143_5 := Aside0.mk hi143_5
         have HC143_5 := Aside0.mk hl143_5
         clear hi143_5 hl143_5
         replace p143 := eq_true p143
         replace q143 := eq_true q143
         have ea_ := Option.some.inj (hx142_3.symm.trans hx143_3)
         injection ea_ with ea_ en_ ec_
         subst ea_
         subst ec_
         clear en_
         have ea_ := Option.some.inj (hx142_4.symm.trans hx143_4)
         injection ea_ with ea_ en_ ec_
         subst ea_
         subst ec_
         clear en_
         have ea_ := Option.some.inj (hx142_5.symm.trans hx143_5)
         injection ea_ with ea_ en_ ec_
         subst ea_
         subst ec_
         clear en_
         go_wp2
         go_ret
         exact ⟨oE, oB⟩
        ·rw [if_neg c56] at H
         have c56b0 : (((rd_T47 l0_0 0).f0) == 1) = false := beq_eq_false_iff_ne.mpr c56
         have c56b1 : (((rd_T47 l0_0 0).f0) != 1) = true := bne_iff_ne.mpr c56
         obtain rfl := Option.some.inj H
         obtain ⟨⟨_, _⟩, _, _⟩ := z2 BK135
         have p142 : 0 ≤ (0 : Int) := (by omega)
         have q142 : 0 < (l0_0.length : Int) := oa
         obtain ⟨ad142, A142_3, c142_3, A142_4, c142_4, A142_5, c142_5, e142, hx142_0, hx142_1, hx142_2, hx142_3, hx142_4, hx142_5, hl142_3, hi142_3, hl142_4, hi142_4, hl142_5, hi142_5⟩ := at_T47 HR0_0.out 0 p142 q142
         cases e142
         have qi142 : (0 < l0_0.length) = True := eq_true (by omega)
         (try rw [show ((0 : Int)).toNat = 0 from rfl] at hx142_0)
         (try rw [show 0 * 6 = 0 from rfl] at hx142_0)
         (try rw [Addr.add_zero'] at hx142_0)
         (try rw [show ((0 : Int)).toNat = 0 from rfl] at hx142_1)
         (try rw [show 0 * 6 = 0 from rfl] at hx142_1)
         (try rw [Addr.add_zero'] at hx142_1)
         (try rw [show ((0 : Int)).toNat = 0 from rfl] at hx142_2)
         (try rw [show 0 * 6 = 0 from rfl] at hx142_2)
         (try rw [Addr.add_zero'] at hx142_2)
         (try rw [show ((0 : Int)).toNat = 0 from rfl] at hx142_3)
         (try rw [show 0 * 6 = 0 from rfl] at hx142_3)
         (try rw [Addr.add_zero'] at hx142_3)
         (try rw [show ((0 : Int)).toNat = 0 from rfl] at hx142_4)
         (try rw [show 0 * 6 = 0 from rfl] at hx142_4)
         (try rw [Addr.add_zero'] at hx142_4)
         (try rw [show ((0 : Int)).toNat = 0 from rfl] at hx142_5)
         (try rw [show 0 * 6 = 0 from rfl] at hx142_5)
         (try rw [Addr.add_zero'] at hx142_5)
         replace hx142_0 := cB HB hx142_0
         replace hx142_1 := cB HB hx142_1
         replace hx142_2 := cB HB hx142_2
         replace hx142_3 := cB HB hx142_3
         replace hx142_4 := cB HB hx142_4
         replace hx142_5 := cB HB hx142_5
         have HR142_3 := Aside0.mk hi142_3
         have HC142_3 := Aside0.mk hl142_3
         clear hi142_3 hl142_3
         have HR142_4 := Aside0.mk hi142_4
         have HC142_4 := Aside0.mk hl142_4
         clear hi142_4 hl142_4
         have HR142_5 := Aside0.mk hi142_5
         have HC142_5 := Aside0.mk hl142_5
         clear hi142_5 hl142_5
         replace p142 := eq_true p142
         replace q142 := eq_true q142
         go_wp2
         go_ret
         exact ⟨oE, oB⟩
       ·rw [if_neg c55] at H
        exact absurd H (by simp)

end Go.Proofs.YtolkhimbfegkkaaGreat.P
