-- By this session's own program (wip/myprint.py) out of the translation; Lean checks it.
import Derived.Test.YtmndnegpclaidaaPx0
import Derived.Test.YtmndnegpclaidaaPx3
namespace Go.Proofs.Ytmndnegpclaidaa.P
open Go.RowKit Go.Proofs.YtmndnegpclaidaaW.PrintWords Go.Proofs.YtmndnegpclaidaaW.PrintLast Go.Proofs.YtmndnegpclaidaaW.PrintMore
attribute [local go_sem] max2_int min2_int max_two min_two max_three min_three max_four min_four   -- for this text's walks alone
set_option linter.unusedVariables false
set_option linter.unusedSimpArgs false

/-! ### spec_TabOk: function 60 -/
mutual
def spec_TabOk.j0 : Nat → Bool → List (S40) → Int → Option (Bool)
 | 0, _, _, _ => none
 | k + 1, x15, x313000, x313001 => if x15 = true then (some false) else (spec_TabOk.l0 k 0 x313000 x313001)
def spec_TabOk.l0 : Nat → Int → List (S40) → Int → Option (Bool)
 | 0, _, _, _ => none
 | k + 1, x3, x313000, x313001 => if x3 < (x313000.length : Int) then (if 0 ≤ x3 then ((spec_InodeOk.f k ((rd_T40 x313000 x3).f0) ((rd_T40 x313000 x3).f1) ((rd_T40 x313000 x3).f2) ((rd_T40 x313000 x3).f3) ((rd_T40 x313000 x3).f4) ((rd_T40 x313000 x3).f5)).bind fun t317 => (if t317 = true then (if ((rd_T40 x313000 x3).f0) ≥ x313001 then (some false) else (if x3 > 0 then (if 0 ≤ (wrap64 (x3 - 1)) then (if (wrap64 (x3 - 1)) < (x313000.length : Int) then (if ((rd_T40 x313000 (wrap64 (x3 - 1))).f0) ≥ ((rd_T40 x313000 x3).f0) then (some false) else (spec_TabOk.l0 k (wrap64 (x3 + 1)) x313000 x313001)) else (none)) else (none)) else (spec_TabOk.l0 k (wrap64 (x3 + 1)) x313000 x313001))) else (some false))) else (none)) else (if 0 < (x313000.length : Int) then (if ((rd_T40 x313000 0).f0) = 1 then (some (((rd_T40 x313000 0).f1) == 2)) else (some false)) else (none))
end
def spec_TabOk.f (k : Nat) (l0_0 : List (S40)) (a0_1 : Int) : Option (Bool) := (spec_l1In.f (l0_0.length : Int) 1 30).bind fun t313 => (if t313 = true then ((spec_l1In.f a0_1 2 1000).bind fun t314 => (spec_TabOk.j0 k (!t314) l0_0 a0_1)) else (spec_TabOk.j0 k true l0_0 a0_1))
def spec_TabOk.T7 : Bool × List (List Nat × List Nat) := (true, [([], []), ([0], [0]), ([1], [1]), ([2, 1], [2]), ([3], [3]), ([4, 3], [3, 4]), ([3], [3]), ([6, 3], [3, 6]), ([5, 7, 3], [3, 5, 7]), ([3, 8], [3, 8]), ([9, 3], [9]), ([10], [10]), ([11, 10], [10, 11]), ([12, 10, 10], [10, 12]), ([13], [13]), ([14, 13], [13, 14]), ([13], [13]), ([16, 13], [13, 16]), ([15, 17, 13], [13, 15, 17]), ([18, 13], [13, 18]), ([19, 13], [13, 19]), ([13], [13]), ([21, 13], [13, 21]), ([20, 22, 13], [13, 20, 22]), ([13, 23, 10], [10, 13, 23]), ([10, 24], [10, 24])])
def spec_TabOk.B7 : List Nat := [0, 1, 3, 7, 15, 31, 15, 79, 255, 511, 1023, 2047, 4095, 8191, 16383, 32767, 16383, 81919, 262143, 524287, 1048575, 16383, 2113535, 8388607, 16777215, 33554431]
theorem spec_TabOk.tab7 : rtab .any (opsOf Try.f60 7) = spec_TabOk.T7 := by kernel_rfl
theorem spec_TabOk.bits7 : waitsOk spec_TabOk.T7.2 spec_TabOk.B7 = true := by kernel_rfl
set_option maxHeartbeats 8000000 in
set_option maxRecDepth 100000 in
theorem spec_TabOk.calls (k : Nat) (A0_0 : Option Addr) (c0_0 : Nat) (l0_0 : List (S40)) (a0_1 : Int) (r : Bool) (w : World) (hr0_0 : Kd.C k40 w A0_0 l0_0.length l0_0) (hc0_0 : l0_0.length ≤ c0_0) (h : spec_TabOk.f k l0_0 a0_1 = some r) :
  Calls Try.prog 60 #[.agg #[.slice A0_0 l0_0.length c0_0, .int .i64 a0_1]] w fun e w' => e = .returned (.bool r) ∧ Below w.heap.size w w' := by
 have hu34 := Try.underlying34
 have hu40 := Try.underlying40
 have HR0_0 := Aside0.mk hr0_0
 have HC0_0 := Aside0.mk hc0_0
 clear hr0_0 hc0_0
 have HB := Aside0.mk (Below.refl w.heap.size w)
 unfold spec_TabOk.f at h
 have H := h
 clear h
 have HC2 := Aside0.mk H
 clear H
 go_enter Try.func60, Try.ntmps60
 go_upto_region 1 with (first | ((with_reducible refine gate_dst (N := 1) rfl ?_); refine bx_ 1 #[.slice A0_0 l0_0.length c0_0, .int .i64 a0_1] 34 ?_; intro gb312 hg w3 hbox hb; have BK312 := Aside0.mk (hbox); have GW312 := gs_ hg; replace HB := Aside0.mk (below_step oB hb); clear hb hbox hg))
 (try simp only [Act.put, List.setIfInBounds_toArray, List.set_cons_zero, List.set_cons_succ])
 go_cut [15] (fun v15 wc => ∃ (kq : Nat) (x15_1 : Bool), v15 = .bool x15_1 ∧ Aside0 (spec_TabOk.j0 kq x15_1 l0_0 a0_1 = some r) ∧ Aside0 (kq ≤ k) ∧ Aside0 (wc.heap[gb312]? = some (.cells #[(.slice A0_0 l0_0.length c0_0), .int .i64 a0_1] 34 (0, 0))) ∧ Aside0 (Below w.heap.size w wc))
 case first =>
  have H := HC2.out
  clear HC2
  replace H := bA H
  obtain ⟨t313, A4, H⟩ := H
  try dsimp only at H
  replace H := itB H
  rcases H with ⟨rfl, H⟩ | ⟨rfl, H⟩
  ·replace H := bA H
   obtain ⟨t314, A6, H⟩ := H
   try dsimp only at H
   have H' := Aside0.mk H
   clear H
   obtain ⟨⟨_, _⟩, _, _⟩ := z2 BK312
   go_wp2_with (first | ((with_reducible refine gate_callee (f := 94) rfl ?_); refine gl_ 8 Try.func94 (spec_l1In.calls (l0_0.length : Int) 1 30 true _ A4.out) ?_; rintro e w' ⟨rfl, ⟨nd, rfl⟩⟩; refine ⟨_, rfl, ?_⟩) | (go_at_call 94; (with_reducible refine (spec_l1In.calls a0_1 2 1000 t314 _ A6.out).mono ?_); rintro e w' ⟨rfl, ⟨nd, rfl⟩⟩))
   go_meet
   case rel => exact ⟨_, (!t314), oS, H', ⟨by first | omega | exact Nat.le_refl _⟩, ⟨oF BK312⟩, ⟨oB⟩⟩
  ·have H' := Aside0.mk H
   clear H
   obtain ⟨⟨_, _⟩, _, _⟩ := z2 BK312
   go_wp2_with (first | ((with_reducible refine gate_callee (f := 94) rfl ?_); refine gl_ 8 Try.func94 (spec_l1In.calls (l0_0.length : Int) 1 30 false _ A4.out) ?_; rintro e w' ⟨rfl, ⟨nd, rfl⟩⟩; refine ⟨_, rfl, ?_⟩))
   go_meet
   case rel => exact ⟨_, (true), oS, H', ⟨by first | omega | exact Nat.le_refl _⟩, ⟨oF BK312⟩, ⟨oB⟩⟩
 case rest =>
  clear HC2
  obtain ⟨kq, x15_1, rfl, HA, HJ1, BK312, HB⟩ := hcut
  cases kq with
  | zero => exact absurd HA.out (by simp [spec_TabOk.j0])
  | succ kj1 =>
   have H := HA.out
   clear HA
   simp only [spec_TabOk.j0] at H
   replace H := itB H
   rcases H with ⟨rfl, H⟩ | ⟨rfl, H⟩
   ·obtain rfl := Option.some.inj H
    go_wp2
    go_ret
    exact ⟨oE, oB⟩
   ·have H' := Aside0.mk H
    clear H
    go_wp2
    go_loopg [3] kj1 (fun kq v3 w' => ∃ (x3_2 : Int), v3 = .int .i64 x3_2 ∧ Aside0 (spec_TabOk.l0 kq x3_2 l0_0 a0_1 = some r) ∧ Aside0 (kq ≤ kj1) ∧ Aside0 (w'.heap[gb312]? = some (.cells #[(.slice A0_0 l0_0.length c0_0), .int .i64 a0_1] 34 (0, 0))) ∧ Aside0 (Below w.heap.size w w'))
    case atStart => exact ⟨(0), oS, H', ⟨Nat.le_refl _⟩, ⟨oF BK312⟩, ⟨oB⟩⟩
    case round =>
     clear H'
     obtain ⟨x3_2, rfl, HA, HK2, BK312, HB⟩ := hrel
     cases gk with
     | zero => exact absurd HA.out (by simp [spec_TabOk.l0])
     | succ k2 =>
      have H := HA.out
      clear HA
      simp only [spec_TabOk.l0] at H
      replace H := itD H
      rcases H with ⟨c10b0, H⟩ | ⟨c10b0, H⟩
      ·replace H := itD H
       rcases H with ⟨c11b0, H⟩ | ⟨c11b0, H⟩
       ·replace H := bA H
        obtain ⟨t317, A12, H⟩ := H
        try dsimp only at H
        replace H := itB H
        rcases H with ⟨rfl, H⟩ | ⟨rfl, H⟩
        ·replace H := itH H
         rcases H with ⟨c14b0, H⟩ | ⟨c14b0, H⟩
         ·obtain rfl := Option.some.inj H
          obtain ⟨⟨_, _⟩, _, _⟩ := z2 BK312
          have p315 : (0 ≤ (x3_2 : Int)) = True := oT
          have q315 : (x3_2 < (l0_0.length : Int)) = True := oT
          obtain ⟨ad315, A315_3, c315_3, A315_4, c315_4, A315_5, c315_5, e315, hx315_0, hx315_1, hx315_2, hx315_3, hx315_4, hx315_5, hl315_3, hi315_3, hl315_4, hi315_4, hl315_5, hi315_5⟩ := at_T40 HR0_0.out x3_2 oa oa
          cases e315
          replace hx315_0 := cB HB hx315_0
          replace hx315_1 := cB HB hx315_1
          replace hx315_2 := cB HB hx315_2
          replace hx315_3 := cB HB hx315_3
          replace hx315_4 := cB HB hx315_4
          replace hx315_5 := cB HB hx315_5
          have HR315_3 := Aside0.mk hi315_3
          have HC315_3 := Aside0.mk hl315_3
          clear hi315_3 hl315_3
          have HR315_4 := Aside0.mk hi315_4
          have HC315_4 := Aside0.mk hl315_4
          clear hi315_4 hl315_4
          have HR315_5 := Aside0.mk hi315_5
          have HC315_5 := Aside0.mk hl315_5
          clear hi315_5 hl315_5
          try go_wp2_with (first | ((with_reducible refine gate_dst (N := 4) rfl ?_); refine bx_ 4 #[.int .i64 0, .int .i64 0, .int .i64 0, .slice none 0 0, .slice none 0 0, .slice none 0 0] 40 ?_; intro gb316 hg w16 hbox hb; have BK316 := Aside0.mk (hbox); have GW316 := gs_ hg; have NB312_316 := nl_ hg BK312; have NB316_312 := nr_ hg BK312; replace BK312 := kb_ BK312 hb; replace HB := Aside0.mk (below_step oB hb); clear hb hbox hg; have hnb17 := NB316_312.out; have hnc17 := NB312_316.out; obtain ⟨⟨_, _, _, _, _, _⟩, _, _, _, _, _, _⟩ := z6 BK316))
          generalize hW_ : ((((((w16.setCell ⟨gb316, 0, none⟩ (.int .i64 ((rd_T40 l0_0 x3_2).f0))).setCell ⟨gb316, 1, none⟩ (.int .i64 ((rd_T40 l0_0 x3_2).f1))).setCell ⟨gb316, 2, none⟩ (.int .i64 ((rd_T40 l0_0 x3_2).f2))).setCell ⟨gb316, 3, none⟩ (.slice A315_3 ((rd_T40 l0_0 x3_2).f3).length c315_3)).setCell ⟨gb316, 4, none⟩ (.slice A315_4 ((rd_T40 l0_0 x3_2).f4).length c315_4)).setCell ⟨gb316, 5, none⟩ (.slice A315_5 ((rd_T40 l0_0 x3_2).f5).length c315_5)) = w19
          replace BK312 := kw_ hW_ BK312
          replace BK316 := kv_ #[.int .i64 ((rd_T40 l0_0 x3_2).f0), .int .i64 ((rd_T40 l0_0 x3_2).f1), .int .i64 ((rd_T40 l0_0 x3_2).f2), .slice A315_3 ((rd_T40 l0_0 x3_2).f3).length c315_3, .slice A315_4 ((rd_T40 l0_0 x3_2).f4).length c315_4, .slice A315_5 ((rd_T40 l0_0 x3_2).f5).length c315_5] hW_ BK316
          replace HB := hw_ hW_ HB
          clear hW_
          replace BK312 := Aside0.mk (blk_drew BK312.out)
          replace BK316 := Aside0.mk (blk_drew BK316.out)
          replace HB := Aside0.mk (below_drew1 HB.out)
          refine st_ 26 (fun w' => w'.cell? ⟨gb316, 0, none⟩ = some (.int .i64 ((rd_T40 l0_0 x3_2).f0)) ∧ w'.cell? ⟨gb316, 1, none⟩ = some (.int .i64 ((rd_T40 l0_0 x3_2).f1)) ∧ w'.cell? ⟨gb316, 2, none⟩ = some (.int .i64 ((rd_T40 l0_0 x3_2).f2)) ∧ w'.cell? ⟨gb316, 3, none⟩ = some (.slice A315_3 ((rd_T40 l0_0 x3_2).f3).length c315_3) ∧ w'.cell? ⟨gb316, 4, none⟩ = some (.slice A315_4 ((rd_T40 l0_0 x3_2).f4).length c315_4) ∧ w'.cell? ⟨gb316, 5, none⟩ = some (.slice A315_5 ((rd_T40 l0_0 x3_2).f5).length c315_5) ∧ w'.cell? ⟨gb312, 0, none⟩ = some (.slice (some ad315) l0_0.length c0_0) ∧ w'.cell? ⟨gb312, 1, none⟩ = some (.int .i64 a0_1)) spec_TabOk.tab7 spec_TabOk.bits7 oH (fun hHeld HT_ HW_ => ?_)
          generalize w19.drew = w20 at BK312 BK316 HB hHeld ⊢
          refine ta_ 0 28 HT_ HW_ hHeld ?_
          refine on_ 1 29 HT_ (fun K hK => ?_)
          refine gr_ 29 Try.func95 (spec_InodeOk.calls k2 ((rd_T40 l0_0 x3_2).f0) ((rd_T40 l0_0 x3_2).f1) ((rd_T40 l0_0 x3_2).f2) _ _ ((rd_T40 l0_0 x3_2).f3) _ _ ((rd_T40 l0_0 x3_2).f4) _ _ ((rd_T40 l0_0 x3_2).f5) true _ (kC HR315_3) HC315_3.out (kC HR315_4) HC315_4.out (kC HR315_5) HC315_5.out A12.out) ?_
          rintro e w21 ⟨rfl, hb⟩
          refine ⟨_, rfl, ?_⟩
          replace BK312 := kb_ BK312 hb
          replace BK316 := kb_ BK316 hb
          replace HB := Aside0.mk (below_step oB hb)
          refine hk_ hK 29 oH (fun hHeld => ?_)
          clear hK K
          refine pu_ 2 30 HT_ ?_
          refine pu_ 3 31 HT_ ?_
          refine pu_ 4 32 HT_ ?_
          refine pu_ 6 34 HT_ ?_
          refine ta_ 5 33 HT_ HW_ hHeld ?_
          refine ta_ 7 35 HT_ HW_ hHeld ?_
          refine pu_ 8 36 HT_ ?_
          refine pu_ 9 37 HT_ ?_
          refine pu_ 10 38 HT_ ?_
          refine pn_ 11 39 HT_ ?_
          refine pn_ 12 40 HT_ ?_
          refine pn_ 13 41 HT_ ?_
          refine pn_ 14 42 HT_ ?_
          refine pn_ 15 43 HT_ ?_
          refine pn_ 16 44 HT_ ?_
          refine pn_ 17 45 HT_ ?_
          refine pn_ 18 46 HT_ ?_
          refine pn_ 19 47 HT_ ?_
          refine pn_ 20 48 HT_ ?_
          refine pn_ 21 49 HT_ ?_
          refine pn_ 22 50 HT_ ?_
          refine pn_ 23 51 HT_ ?_
          refine pn_ 24 52 HT_ ?_
          refine pu_ 25 53 HT_ ?_
          refine dn_ HT_ ?_
          try go_wp2
          go_ret
          exact ⟨oE, oB⟩
         ·replace H := itG H
          rcases H with ⟨c22b0, H⟩ | ⟨c22b0, H⟩
          ·obtain ⟨ji23, hji23⟩ : ∃ j_ : Int, (wrap64 (x3_2 - 1)) = j_ := ⟨_, rfl⟩
           replace H : (if 0 ≤ (ji23) then (if (ji23) < (l0_0.length : Int) then (if ((rd_T40 l0_0 (ji23)).f0) ≥ ((rd_T40 l0_0 x3_2).f0) then (some false) else (spec_TabOk.l0 k2 (wrap64 (x3_2 + 1)) l0_0 a0_1)) else (none)) else (none)) = some r := by first | (rw [hji23] at H; exact H) | (simp only [hji23] at H ⊢; exact H)
           (try rw [hji23] at A12)
           have hji23w : (IntKind.i64.wrap (x3_2 - 1)) = ji23 := (i64_w _).trans hji23
           replace H := itD H
           rcases H with ⟨c24b0, H⟩ | ⟨c24b0, H⟩
           ·replace H := itD H
            rcases H with ⟨c25b0, H⟩ | ⟨c25b0, H⟩
            ·replace H := itH H
             rcases H with ⟨c26b0, H⟩ | ⟨c26b0, H⟩
             ·obtain rfl := Option.some.inj H
              obtain ⟨⟨_, _⟩, _, _⟩ := z2 BK312
              have p315 : (0 ≤ (x3_2 : Int)) = True := oT
              have q315 : (x3_2 < (l0_0.length : Int)) = True := oT
              obtain ⟨ad315, A315_3, c315_3, A315_4, c315_4, A315_5, c315_5, e315, hx315_0, hx315_1, hx315_2, hx315_3, hx315_4, hx315_5, hl315_3, hi315_3, hl315_4, hi315_4, hl315_5, hi315_5⟩ := at_T40 HR0_0.out x3_2 oa oa
              cases e315
              replace hx315_0 := cB HB hx315_0
              replace hx315_1 := cB HB hx315_1
              replace hx315_2 := cB HB hx315_2
              replace hx315_3 := cB HB hx315_3
              replace hx315_4 := cB HB hx315_4
              replace hx315_5 := cB HB hx315_5
              have HR315_3 := Aside0.mk hi315_3
              have HC315_3 := Aside0.mk hl315_3
              clear hi315_3 hl315_3
              have HR315_4 := Aside0.mk hi315_4
              have HC315_4 := Aside0.mk hl315_4
              clear hi315_4 hl315_4
              have HR315_5 := Aside0.mk hi315_5
              have HC315_5 := Aside0.mk hl315_5
              clear hi315_5 hl315_5
              try go_wp2_with (first | ((with_reducible refine gate_dst (N := 4) rfl ?_); refine bx_ 4 #[.int .i64 0, .int .i64 0, .int .i64 0, .slice none 0 0, .slice none 0 0, .slice none 0 0] 40 ?_; intro gb316 hg w28 hbox hb; have BK316 := Aside0.mk (hbox); have GW316 := gs_ hg; have NB312_316 := nl_ hg BK312; have NB316_312 := nr_ hg BK312; replace BK312 := kb_ BK312 hb; replace HB := Aside0.mk (below_step oB hb); clear hb hbox hg; have hnb29 := NB316_312.out; have hnc29 := NB312_316.out; obtain ⟨⟨_, _, _, _, _, _⟩, _, _, _, _, _, _⟩ := z6 BK316))
              generalize hW_ : ((((((w28.setCell ⟨gb316, 0, none⟩ (.int .i64 ((rd_T40 l0_0 x3_2).f0))).setCell ⟨gb316, 1, none⟩ (.int .i64 ((rd_T40 l0_0 x3_2).f1))).setCell ⟨gb316, 2, none⟩ (.int .i64 ((rd_T40 l0_0 x3_2).f2))).setCell ⟨gb316, 3, none⟩ (.slice A315_3 ((rd_T40 l0_0 x3_2).f3).length c315_3)).setCell ⟨gb316, 4, none⟩ (.slice A315_4 ((rd_T40 l0_0 x3_2).f4).length c315_4)).setCell ⟨gb316, 5, none⟩ (.slice A315_5 ((rd_T40 l0_0 x3_2).f5).length c315_5)) = w31
              replace BK312 := kw_ hW_ BK312
              replace BK316 := kv_ #[.int .i64 ((rd_T40 l0_0 x3_2).f0), .int .i64 ((rd_T40 l0_0 x3_2).f1), .int .i64 ((rd_T40 l0_0 x3_2).f2), .slice A315_3 ((rd_T40 l0_0 x3_2).f3).length c315_3, .slice A315_4 ((rd_T40 l0_0 x3_2).f4).length c315_4, .slice A315_5 ((rd_T40 l0_0 x3_2).f5).length c315_5] hW_ BK316
              replace HB := hw_ hW_ HB
              clear hW_
              replace BK312 := Aside0.mk (blk_drew BK312.out)
              replace BK316 := Aside0.mk (blk_drew BK316.out)
              replace HB := Aside0.mk (below_drew1 HB.out)
              have p318 : (0 ≤ ((ji23) : Int)) = True := oT
              have q318 : ((ji23) < (l0_0.length : Int)) = True := oT
              obtain ⟨ad318, A318_3, c318_3, A318_4, c318_4, A318_5, c318_5, e318, hx318_0, hx318_1, hx318_2, hx318_3, hx318_4, hx318_5, hl318_3, hi318_3, hl318_4, hi318_4, hl318_5, hi318_5⟩ := at_T40 HR0_0.out (ji23) oa oa
              have hw318_5 := hx318_5
              have hw318_4 := hx318_4
              have hw318_3 := hx318_3
              have hw318_2 := hx318_2
              have hw318_1 := hx318_1
              have hw318_0 := hx318_0
              obtain rfl : ad315 = ad318 := (by injection e318)
              replace hx318_0 := cB HB hx318_0
              replace hx318_1 := cB HB hx318_1
              replace hx318_2 := cB HB hx318_2
              replace hx318_3 := cB HB hx318_3
              replace hx318_4 := cB HB hx318_4
              replace hx318_5 := cB HB hx318_5
              have HR318_3 := Aside0.mk hi318_3
              have HC318_3 := Aside0.mk hl318_3
              clear hi318_3 hl318_3
              have HR318_4 := Aside0.mk hi318_4
              have HC318_4 := Aside0.mk hl318_4
              clear hi318_4 hl318_4
              have HR318_5 := Aside0.mk hi318_5
              have HC318_5 := Aside0.mk hl318_5
              clear hi318_5 hl318_5
              refine st_ 26 (fun w' => w'.cell? ⟨gb316, 0, none⟩ = some (.int .i64 ((rd_T40 l0_0 x3_2).f0)) ∧ w'.cell? ⟨gb316, 1, none⟩ = some (.int .i64 ((rd_T40 l0_0 x3_2).f1)) ∧ w'.cell? ⟨gb316, 2, none⟩ = some (.int .i64 ((rd_T40 l0_0 x3_2).f2)) ∧ w'.cell? ⟨gb316, 3, none⟩ = some (.slice A315_3 ((rd_T40 l0_0 x3_2).f3).length c315_3) ∧ w'.cell? ⟨gb316, 4, none⟩ = some (.slice A315_4 ((rd_T40 l0_0 x3_2).f4).length c315_4) ∧ w'.cell? ⟨gb316, 5, none⟩ = some (.slice A315_5 ((rd_T40 l0_0 x3_2).f5).length c315_5) ∧ w'.cell? ⟨gb312, 0, none⟩ = some (.slice (some ad315) l0_0.length c0_0) ∧ w'.cell? ⟨gb312, 1, none⟩ = some (.int .i64 a0_1) ∧ w'.cell? (ad315.add (((ji23)).toNat * 6)) = some (.int .i64 ((rd_T40 l0_0 (ji23)).f0)) ∧ w'.cell? ⟨(ad315.add (((ji23)).toNat * 6)).block, (ad315.add (((ji23)).toNat * 6)).off + 1, none⟩ = some (.int .i64 ((rd_T40 l0_0 (ji23)).f1)) ∧ w'.cell? ⟨(ad315.add (((ji23)).toNat * 6)).block, (ad315.add (((ji23)).toNat * 6)).off + 2, none⟩ = some (.int .i64 ((rd_T40 l0_0 (ji23)).f2)) ∧ w'.cell? ⟨(ad315.add (((ji23)).toNat * 6)).block, (ad315.add (((ji23)).toNat * 6)).off + 3, none⟩ = some (.slice A318_3 ((rd_T40 l0_0 (ji23)).f3).length c318_3) ∧ w'.cell? ⟨(ad315.add (((ji23)).toNat * 6)).block, (ad315.add (((ji23)).toNat * 6)).off + 4, none⟩ = some (.slice A318_4 ((rd_T40 l0_0 (ji23)).f4).length c318_4) ∧ w'.cell? ⟨(ad315.add (((ji23)).toNat * 6)).block, (ad315.add (((ji23)).toNat * 6)).off + 5, none⟩ = some (.slice A318_5 ((rd_T40 l0_0 (ji23)).f5).length c318_5)) spec_TabOk.tab7 spec_TabOk.bits7 oH (fun hHeld HT_ HW_ => ?_)
              generalize w31.drew = w32 at BK312 BK316 HB HR318_3 HR318_4 HR318_5 hx318_0 hx318_1 hx318_2 hx318_3 hx318_4 hx318_5 hHeld ⊢
              refine ta_ 0 28 HT_ HW_ hHeld ?_
              refine on_ 1 29 HT_ (fun K hK => ?_)
              refine gr_ 29 Try.func95 (spec_InodeOk.calls k2 ((rd_T40 l0_0 x3_2).f0) ((rd_T40 l0_0 x3_2).f1) ((rd_T40 l0_0 x3_2).f2) _ _ ((rd_T40 l0_0 x3_2).f3) _ _ ((rd_T40 l0_0 x3_2).f4) _ _ ((rd_T40 l0_0 x3_2).f5) true _ (kC HR315_3) HC315_3.out (kC HR315_4) HC315_4.out (kC HR315_5) HC315_5.out A12.out) ?_
              rintro e w33 ⟨rfl, hb⟩
              refine ⟨_, rfl, ?_⟩
              replace BK312 := kb_ BK312 hb
              replace BK316 := kb_ BK316 hb
              replace HB := Aside0.mk (below_step oB hb)
              refine hk_ hK 29 oH (fun hHeld => ?_)
              clear hK K
              refine pu_ 2 30 HT_ ?_
              refine pu_ 3 31 HT_ ?_
              refine pu_ 4 32 HT_ ?_
              refine pu_ 6 34 HT_ ?_
              refine ta_ 5 33 HT_ HW_ hHeld ?_
              refine ta_ 7 35 HT_ HW_ hHeld ?_
              refine pu_ 8 36 HT_ ?_
              refine pu_ 9 37 HT_ ?_
              refine pu_ 10 38 HT_ ?_
              refine pu_ 11 39 HT_ ?_
              refine pu_ 12 40 HT_ ?_
              refine pu_ 13 41 HT_ ?_
              refine pu_ 14 42 HT_ ?_
              refine pu_ 16 44 HT_ ?_
              refine pu_ 17 45 HT_ ?_
              refine pu_ 21 49 HT_ ?_
              refine ta_ 15 43 HT_ HW_ hHeld ?_
              refine pu_ 18 46 HT_ ?_
              refine pu_ 19 47 HT_ ?_
              refine ta_ 20 48 HT_ HW_ hHeld ?_
              refine ta_ 22 50 HT_ HW_ hHeld ?_
              refine pu_ 23 51 HT_ ?_
              refine pu_ 24 52 HT_ ?_
              refine pu_ 25 53 HT_ ?_
              refine dn_ HT_ ?_
              try go_wp2
              go_ret
              exact ⟨by first | rfl | (simp [errW_none, errW_some] <;> rfl) | (simp only [← hji23]; first | rfl | (simp [errW_none, errW_some] <;> rfl)) | (simp [*, errW_none, errW_some] <;> rfl), oB⟩
             ·have H' := Aside0.mk H
              clear H
              obtain ⟨⟨_, _⟩, _, _⟩ := z2 BK312
              have p315 : (0 ≤ (x3_2 : Int)) = True := oT
              have q315 : (x3_2 < (l0_0.length : Int)) = True := oT
              obtain ⟨ad315, A315_3, c315_3, A315_4, c315_4, A315_5, c315_5, e315, hx315_0, hx315_1, hx315_2, hx315_3, hx315_4, hx315_5, hl315_3, hi315_3, hl315_4, hi315_4, hl315_5, hi315_5⟩ := at_T40 HR0_0.out x3_2 oa oa
              cases e315
              replace hx315_0 := cB HB hx315_0
              replace hx315_1 := cB HB hx315_1
              replace hx315_2 := cB HB hx315_2
              replace hx315_3 := cB HB hx315_3
              replace hx315_4 := cB HB hx315_4
              replace hx315_5 := cB HB hx315_5
              have HR315_3 := Aside0.mk hi315_3
              have HC315_3 := Aside0.mk hl315_3
              clear hi315_3 hl315_3
              have HR315_4 := Aside0.mk hi315_4
              have HC315_4 := Aside0.mk hl315_4
              clear hi315_4 hl315_4
              have HR315_5 := Aside0.mk hi315_5
              have HC315_5 := Aside0.mk hl315_5
              clear hi315_5 hl315_5
              try go_wp2_with (first | ((with_reducible refine gate_dst (N := 4) rfl ?_); refine bx_ 4 #[.int .i64 0, .int .i64 0, .int .i64 0, .slice none 0 0, .slice none 0 0, .slice none 0 0] 40 ?_; intro gb316 hg w35 hbox hb; have BK316 := Aside0.mk (hbox); have GW316 := gs_ hg; have NB312_316 := nl_ hg BK312; have NB316_312 := nr_ hg BK312; replace BK312 := kb_ BK312 hb; replace HB := Aside0.mk (below_step oB hb); clear hb hbox hg; have hnb36 := NB316_312.out; have hnc36 := NB312_316.out; obtain ⟨⟨_, _, _, _, _, _⟩, _, _, _, _, _, _⟩ := z6 BK316))
              generalize hW_ : ((((((w35.setCell ⟨gb316, 0, none⟩ (.int .i64 ((rd_T40 l0_0 x3_2).f0))).setCell ⟨gb316, 1, none⟩ (.int .i64 ((rd_T40 l0_0 x3_2).f1))).setCell ⟨gb316, 2, none⟩ (.int .i64 ((rd_T40 l0_0 x3_2).f2))).setCell ⟨gb316, 3, none⟩ (.slice A315_3 ((rd_T40 l0_0 x3_2).f3).length c315_3)).setCell ⟨gb316, 4, none⟩ (.slice A315_4 ((rd_T40 l0_0 x3_2).f4).length c315_4)).setCell ⟨gb316, 5, none⟩ (.slice A315_5 ((rd_T40 l0_0 x3_2).f5).length c315_5)) = w38
              replace BK312 := kw_ hW_ BK312
              replace BK316 := kv_ #[.int .i64 ((rd_T40 l0_0 x3_2).f0), .int .i64 ((rd_T40 l0_0 x3_2).f1), .int .i64 ((rd_T40 l0_0 x3_2).f2), .slice A315_3 ((rd_T40 l0_0 x3_2).f3).length c315_3, .slice A315_4 ((rd_T40 l0_0 x3_2).f4).length c315_4, .slice A315_5 ((rd_T40 l0_0 x3_2).f5).length c315_5] hW_ BK316
              replace HB := hw_ hW_ HB
              clear hW_
              replace BK312 := Aside0.mk (blk_drew BK312.out)
              replace BK316 := Aside0.mk (blk_drew BK316.out)
              replace HB := Aside0.mk (below_drew1 HB.out)
              have p318 : (0 ≤ ((ji23) : Int)) = True := oT
              have q318 : ((ji23) < (l0_0.length : Int)) = True := oT
              obtain ⟨ad318, A318_3, c318_3, A318_4, c318_4, A318_5, c318_5, e318, hx318_0, hx318_1, hx318_2, hx318_3, hx318_4, hx318_5, hl318_3, hi318_3, hl318_4, hi318_4, hl318_5, hi318_5⟩ := at_T40 HR0_0.out (ji23) oa oa
              have hw318_5 := hx318_5
              have hw318_4 := hx318_4
              have hw318_3 := hx318_3
              have hw318_2 := hx318_2
              have hw318_1 := hx318_1
              have hw318_0 := hx318_0
              obtain rfl : ad315 = ad318 := (by injection e318)
              replace hx318_0 := cB HB hx318_0
              replace hx318_1 := cB HB hx318_1
              replace hx318_2 := cB HB hx318_2
              replace hx318_3 := cB HB hx318_3
              replace hx318_4 := cB HB hx318_4
              replace hx318_5 := cB HB hx318_5
              have HR318_3 := Aside0.mk hi318_3
              have HC318_3 := Aside0.mk hl318_3
              clear hi318_3 hl318_3
              have HR318_4 := Aside0.mk hi318_4
              have HC318_4 := Aside0.mk hl318_4
              clear hi318_4 hl318_4
              have HR318_5 := Aside0.mk hi318_5
              have HC318_5 := Aside0.mk hl318_5
              clear hi318_5 hl318_5
              refine st_ 26 (fun w' => w'.cell? ⟨gb316, 0, none⟩ = some (.int .i64 ((rd_T40 l0_0 x3_2).f0)) ∧ w'.cell? ⟨gb316, 1, none⟩ = some (.int .i64 ((rd_T40 l0_0 x3_2).f1)) ∧ w'.cell? ⟨gb316, 2, none⟩ = some (.int .i64 ((rd_T40 l0_0 x3_2).f2)) ∧ w'.cell? ⟨gb316, 3, none⟩ = some (.slice A315_3 ((rd_T40 l0_0 x3_2).f3).length c315_3) ∧ w'.cell? ⟨gb316, 4, none⟩ = some (.slice A315_4 ((rd_T40 l0_0 x3_2).f4).length c315_4) ∧ w'.cell? ⟨gb316, 5, none⟩ = some (.slice A315_5 ((rd_T40 l0_0 x3_2).f5).length c315_5) ∧ w'.cell? ⟨gb312, 0, none⟩ = some (.slice (some ad315) l0_0.length c0_0) ∧ w'.cell? ⟨gb312, 1, none⟩ = some (.int .i64 a0_1) ∧ w'.cell? (ad315.add (((ji23)).toNat * 6)) = some (.int .i64 ((rd_T40 l0_0 (ji23)).f0)) ∧ w'.cell? ⟨(ad315.add (((ji23)).toNat * 6)).block, (ad315.add (((ji23)).toNat * 6)).off + 1, none⟩ = some (.int .i64 ((rd_T40 l0_0 (ji23)).f1)) ∧ w'.cell? ⟨(ad315.add (((ji23)).toNat * 6)).block, (ad315.add (((ji23)).toNat * 6)).off + 2, none⟩ = some (.int .i64 ((rd_T40 l0_0 (ji23)).f2)) ∧ w'.cell? ⟨(ad315.add (((ji23)).toNat * 6)).block, (ad315.add (((ji23)).toNat * 6)).off + 3, none⟩ = some (.slice A318_3 ((rd_T40 l0_0 (ji23)).f3).length c318_3) ∧ w'.cell? ⟨(ad315.add (((ji23)).toNat * 6)).block, (ad315.add (((ji23)).toNat * 6)).off + 4, none⟩ = some (.slice A318_4 ((rd_T40 l0_0 (ji23)).f4).length c318_4) ∧ w'.cell? ⟨(ad315.add (((ji23)).toNat * 6)).block, (ad315.add (((ji23)).toNat * 6)).off + 5, none⟩ = some (.slice A318_5 ((rd_T40 l0_0 (ji23)).f5).length c318_5)) spec_TabOk.tab7 spec_TabOk.bits7 oH (fun hHeld HT_ HW_ => ?_)
              generalize w38.drew = w39 at BK312 BK316 HB HR318_3 HR318_4 HR318_5 hx318_0 hx318_1 hx318_2 hx318_3 hx318_4 hx318_5 hHeld ⊢
              refine ta_ 0 28 HT_ HW_ hHeld ?_
              refine on_ 1 29 HT_ (fun K hK => ?_)
              refine gr_ 29 Try.func95 (spec_InodeOk.calls k2 ((rd_T40 l0_0 x3_2).f0) ((rd_T40 l0_0 x3_2).f1) ((rd_T40 l0_0 x3_2).f2) _ _ ((rd_T40 l0_0 x3_2).f3) _ _ ((rd_T40 l0_0 x3_2).f4) _ _ ((rd_T40 l0_0 x3_2).f5) true _ (kC HR315_3) HC315_3.out (kC HR315_4) HC315_4.out (kC HR315_5) HC315_5.out A12.out) ?_
              rintro e w40 ⟨rfl, hb⟩
              refine ⟨_, rfl, ?_⟩
              replace BK312 := kb_ BK312 hb
              replace BK316 := kb_ BK316 hb
              replace HB := Aside0.mk (below_step oB hb)
              refine hk_ hK 29 oH (fun hHeld => ?_)
              clear hK K
              refine pu_ 2 30 HT_ ?_
              refine pu_ 3 31 HT_ ?_
              refine pu_ 4 32 HT_ ?_
              refine pu_ 6 34 HT_ ?_
              refine ta_ 5 33 HT_ HW_ hHeld ?_
              refine ta_ 7 35 HT_ HW_ hHeld ?_
              refine pu_ 8 36 HT_ ?_
              refine pu_ 9 37 HT_ ?_
              refine pu_ 10 38 HT_ ?_
              refine pu_ 11 39 HT_ ?_
              refine pu_ 12 40 HT_ ?_
              refine pu_ 13 41 HT_ ?_
              refine pu_ 14 42 HT_ ?_
              refine pu_ 16 44 HT_ ?_
              refine pu_ 17 45 HT_ ?_
              refine pu_ 21 49 HT_ ?_
              refine ta_ 15 43 HT_ HW_ hHeld ?_
              refine pu_ 18 46 HT_ ?_
              refine pu_ 19 47 HT_ ?_
              refine ta_ 20 48 HT_ HW_ hHeld ?_
              refine ta_ 22 50 HT_ HW_ hHeld ?_
              refine pu_ 23 51 HT_ ?_
              refine pu_ 24 52 HT_ ?_
              refine pu_ 25 53 HT_ ?_
              refine dn_ HT_ ?_
              try go_wp2
              go_roundg k2
              case measure => have := HJ1.out; have := HK2.out; omega
              case rel => exact ⟨(wrap64 (x3_2 + 1)), oS, H', ⟨by have := HJ1.out; have := HK2.out; omega⟩, ⟨oF BK312⟩, ⟨oB⟩⟩
            ·cases H
           ·cases H
          ·have H' := Aside0.mk H
           clear H
           obtain ⟨⟨_, _⟩, _, _⟩ := z2 BK312
           have p315 : (0 ≤ (x3_2 : Int)) = True := oT
           have q315 : (x3_2 < (l0_0.length : Int)) = True := oT
           obtain ⟨ad315, A315_3, c315_3, A315_4, c315_4, A315_5, c315_5, e315, hx315_0, hx315_1, hx315_2, hx315_3, hx315_4, hx315_5, hl315_3, hi315_3, hl315_4, hi315_4, hl315_5, hi315_5⟩ := at_T40 HR0_0.out x3_2 oa oa
           cases e315
           replace hx315_0 := cB HB hx315_0
           replace hx315_1 := cB HB hx315_1
           replace hx315_2 := cB HB hx315_2
           replace hx315_3 := cB HB hx315_3
           replace hx315_4 := cB HB hx315_4
           replace hx315_5 := cB HB hx315_5
           have HR315_3 := Aside0.mk hi315_3
           have HC315_3 := Aside0.mk hl315_3
           clear hi315_3 hl315_3
           have HR315_4 := Aside0.mk hi315_4
           have HC315_4 := Aside0.mk hl315_4
           clear hi315_4 hl315_4
           have HR315_5 := Aside0.mk hi315_5
           have HC315_5 := Aside0.mk hl315_5
           clear hi315_5 hl315_5
           try go_wp2_with (first | ((with_reducible refine gate_dst (N := 4) rfl ?_); refine bx_ 4 #[.int .i64 0, .int .i64 0, .int .i64 0, .slice none 0 0, .slice none 0 0, .slice none 0 0] 40 ?_; intro gb316 hg w42 hbox hb; have BK316 := Aside0.mk (hbox); have GW316 := gs_ hg; have NB312_316 := nl_ hg BK312; have NB316_312 := nr_ hg BK312; replace BK312 := kb_ BK312 hb; replace HB := Aside0.mk (below_step oB hb); clear hb hbox hg; have hnb43 := NB316_312.out; have hnc43 := NB312_316.out; obtain ⟨⟨_, _, _, _, _, _⟩, _, _, _, _, _, _⟩ := z6 BK316))
           generalize hW_ : ((((((w42.setCell ⟨gb316, 0, none⟩ (.int .i64 ((rd_T40 l0_0 x3_2).f0))).setCell ⟨gb316, 1, none⟩ (.int .i64 ((rd_T40 l0_0 x3_2).f1))).setCell ⟨gb316, 2, none⟩ (.int .i64 ((rd_T40 l0_0 x3_2).f2))).setCell ⟨gb316, 3, none⟩ (.slice A315_3 ((rd_T40 l0_0 x3_2).f3).length c315_3)).setCell ⟨gb316, 4, none⟩ (.slice A315_4 ((rd_T40 l0_0 x3_2).f4).length c315_4)).setCell ⟨gb316, 5, none⟩ (.slice A315_5 ((rd_T40 l0_0 x3_2).f5).length c315_5)) = w45
           replace BK312 := kw_ hW_ BK312
           replace BK316 := kv_ #[.int .i64 ((rd_T40 l0_0 x3_2).f0), .int .i64 ((rd_T40 l0_0 x3_2).f1), .int .i64 ((rd_T40 l0_0 x3_2).f2), .slice A315_3 ((rd_T40 l0_0 x3_2).f3).length c315_3, .slice A315_4 ((rd_T40 l0_0 x3_2).f4).length c315_4, .slice A315_5 ((rd_T40 l0_0 x3_2).f5).length c315_5] hW_ BK316
           replace HB := hw_ hW_ HB
           clear hW_
           replace BK312 := Aside0.mk (blk_drew BK312.out)
           replace BK316 := Aside0.mk (blk_drew BK316.out)
           replace HB := Aside0.mk (below_drew1 HB.out)
           refine st_ 26 (fun w' => w'.cell? ⟨gb316, 0, none⟩ = some (.int .i64 ((rd_T40 l0_0 x3_2).f0)) ∧ w'.cell? ⟨gb316, 1, none⟩ = some (.int .i64 ((rd_T40 l0_0 x3_2).f1)) ∧ w'.cell? ⟨gb316, 2, none⟩ = some (.int .i64 ((rd_T40 l0_0 x3_2).f2)) ∧ w'.cell? ⟨gb316, 3, none⟩ = some (.slice A315_3 ((rd_T40 l0_0 x3_2).f3).length c315_3) ∧ w'.cell? ⟨gb316, 4, none⟩ = some (.slice A315_4 ((rd_T40 l0_0 x3_2).f4).length c315_4) ∧ w'.cell? ⟨gb316, 5, none⟩ = some (.slice A315_5 ((rd_T40 l0_0 x3_2).f5).length c315_5) ∧ w'.cell? ⟨gb312, 0, none⟩ = some (.slice (some ad315) l0_0.length c0_0) ∧ w'.cell? ⟨gb312, 1, none⟩ = some (.int .i64 a0_1)) spec_TabOk.tab7 spec_TabOk.bits7 oH (fun hHeld HT_ HW_ => ?_)
           generalize w45.drew = w46 at BK312 BK316 HB hHeld ⊢
           refine ta_ 0 28 HT_ HW_ hHeld ?_
           refine on_ 1 29 HT_ (fun K hK => ?_)
           refine gr_ 29 Try.func95 (spec_InodeOk.calls k2 ((rd_T40 l0_0 x3_2).f0) ((rd_T40 l0_0 x3_2).f1) ((rd_T40 l0_0 x3_2).f2) _ _ ((rd_T40 l0_0 x3_2).f3) _ _ ((rd_T40 l0_0 x3_2).f4) _ _ ((rd_T40 l0_0 x3_2).f5) true _ (kC HR315_3) HC315_3.out (kC HR315_4) HC315_4.out (kC HR315_5) HC315_5.out A12.out) ?_
           rintro e w47 ⟨rfl, hb⟩
           refine ⟨_, rfl, ?_⟩
           replace BK312 := kb_ BK312 hb
           replace BK316 := kb_ BK316 hb
           replace HB := Aside0.mk (below_step oB hb)
           refine hk_ hK 29 oH (fun hHeld => ?_)
           clear hK K
           refine pu_ 2 30 HT_ ?_
           refine pu_ 3 31 HT_ ?_
           refine pu_ 4 32 HT_ ?_
           refine pu_ 6 34 HT_ ?_
           refine ta_ 5 33 HT_ HW_ hHeld ?_
           refine ta_ 7 35 HT_ HW_ hHeld ?_
           refine pu_ 8 36 HT_ ?_
           refine pu_ 9 37 HT_ ?_
           refine pu_ 10 38 HT_ ?_
           refine pu_ 11 39 HT_ ?_
           refine pu_ 12 40 HT_ ?_
           refine pu_ 13 41 HT_ ?_
           refine pn_ 14 42 HT_ ?_
           refine pn_ 15 43 HT_ ?_
           refine pn_ 16 44 HT_ ?_
           refine pn_ 17 45 HT_ ?_
           refine pn_ 18 46 HT_ ?_
           refine pn_ 19 47 HT_ ?_
           refine pn_ 20 48 HT_ ?_
           refine pn_ 21 49 HT_ ?_
           refine pn_ 22 50 HT_ ?_
           refine pn_ 23 51 HT_ ?_
           refine pu_ 24 52 HT_ ?_
           refine pu_ 25 53 HT_ ?_
           refine dn_ HT_ ?_
           try go_wp2
           go_roundg k2
           case measure => have := HJ1.out; have := HK2.out; omega
           case rel => exact ⟨(wrap64 (x3_2 + 1)), oS, H', ⟨by have := HJ1.out; have := HK2.out; omega⟩, ⟨oF BK312⟩, ⟨oB⟩⟩
        ·obtain rfl := Option.some.inj H
         obtain ⟨⟨_, _⟩, _, _⟩ := z2 BK312
         have p315 : (0 ≤ (x3_2 : Int)) = True := oT
         have q315 : (x3_2 < (l0_0.length : Int)) = True := oT
         obtain ⟨ad315, A315_3, c315_3, A315_4, c315_4, A315_5, c315_5, e315, hx315_0, hx315_1, hx315_2, hx315_3, hx315_4, hx315_5, hl315_3, hi315_3, hl315_4, hi315_4, hl315_5, hi315_5⟩ := at_T40 HR0_0.out x3_2 oa oa
         cases e315
         replace hx315_0 := cB HB hx315_0
         replace hx315_1 := cB HB hx315_1
         replace hx315_2 := cB HB hx315_2
         replace hx315_3 := cB HB hx315_3
         replace hx315_4 := cB HB hx315_4
         replace hx315_5 := cB HB hx315_5
         have HR315_3 := Aside0.mk hi315_3
         have HC315_3 := Aside0.mk hl315_3
         clear hi315_3 hl315_3
         have HR315_4 := Aside0.mk hi315_4
         have HC315_4 := Aside0.mk hl315_4
         clear hi315_4 hl315_4
         have HR315_5 := Aside0.mk hi315_5
         have HC315_5 := Aside0.mk hl315_5
         clear hi315_5 hl315_5
         try go_wp2_with (first | ((with_reducible refine gate_dst (N := 4) rfl ?_); refine bx_ 4 #[.int .i64 0, .int .i64 0, .int .i64 0, .slice none 0 0, .slice none 0 0, .slice none 0 0] 40 ?_; intro gb316 hg w49 hbox hb; have BK316 := Aside0.mk (hbox); have GW316 := gs_ hg; have NB312_316 := nl_ hg BK312; have NB316_312 := nr_ hg BK312; replace BK312 := kb_ BK312 hb; replace HB := Aside0.mk (below_step oB hb); clear hb hbox hg; have hnb50 := NB316_312.out; have hnc50 := NB312_316.out; obtain ⟨⟨_, _, _, _, _, _⟩, _, _, _, _, _, _⟩ := z6 BK316))
         generalize hW_ : ((((((w49.setCell ⟨gb316, 0, none⟩ (.int .i64 ((rd_T40 l0_0 x3_2).f0))).setCell ⟨gb316, 1, none⟩ (.int .i64 ((rd_T40 l0_0 x3_2).f1))).setCell ⟨gb316, 2, none⟩ (.int .i64 ((rd_T40 l0_0 x3_2).f2))).setCell ⟨gb316, 3, none⟩ (.slice A315_3 ((rd_T40 l0_0 x3_2).f3).length c315_3)).setCell ⟨gb316, 4, none⟩ (.slice A315_4 ((rd_T40 l0_0 x3_2).f4).length c315_4)).setCell ⟨gb316, 5, none⟩ (.slice A315_5 ((rd_T40 l0_0 x3_2).f5).length c315_5)) = w52
         replace BK312 := kw_ hW_ BK312
         replace BK316 := kv_ #[.int .i64 ((rd_T40 l0_0 x3_2).f0), .int .i64 ((rd_T40 l0_0 x3_2).f1), .int .i64 ((rd_T40 l0_0 x3_2).f2), .slice A315_3 ((rd_T40 l0_0 x3_2).f3).length c315_3, .slice A315_4 ((rd_T40 l0_0 x3_2).f4).length c315_4, .slice A315_5 ((rd_T40 l0_0 x3_2).f5).length c315_5] hW_ BK316
         replace HB := hw_ hW_ HB
         clear hW_
         replace BK312 := Aside0.mk (blk_drew BK312.out)
         replace BK316 := Aside0.mk (blk_drew BK316.out)
         replace HB := Aside0.mk (below_drew1 HB.out)
         refine st_ 26 (fun w' => w'.cell? ⟨gb316, 0, none⟩ = some (.int .i64 ((rd_T40 l0_0 x3_2).f0)) ∧ w'.cell? ⟨gb316, 1, none⟩ = some (.int .i64 ((rd_T40 l0_0 x3_2).f1)) ∧ w'.cell? ⟨gb316, 2, none⟩ = some (.int .i64 ((rd_T40 l0_0 x3_2).f2)) ∧ w'.cell? ⟨gb316, 3, none⟩ = some (.slice A315_3 ((rd_T40 l0_0 x3_2).f3).length c315_3) ∧ w'.cell? ⟨gb316, 4, none⟩ = some (.slice A315_4 ((rd_T40 l0_0 x3_2).f4).length c315_4) ∧ w'.cell? ⟨gb316, 5, none⟩ = some (.slice A315_5 ((rd_T40 l0_0 x3_2).f5).length c315_5)) spec_TabOk.tab7 spec_TabOk.bits7 oH (fun hHeld HT_ HW_ => ?_)
         generalize w52.drew = w53 at BK312 BK316 HB hHeld ⊢
         refine ta_ 0 28 HT_ HW_ hHeld ?_
         refine on_ 1 29 HT_ (fun K hK => ?_)
         refine gr_ 29 Try.func95 (spec_InodeOk.calls k2 ((rd_T40 l0_0 x3_2).f0) ((rd_T40 l0_0 x3_2).f1) ((rd_T40 l0_0 x3_2).f2) _ _ ((rd_T40 l0_0 x3_2).f3) _ _ ((rd_T40 l0_0 x3_2).f4) _ _ ((rd_T40 l0_0 x3_2).f5) false _ (kC HR315_3) HC315_3.out (kC HR315_4) HC315_4.out (kC HR315_5) HC315_5.out A12.out) ?_
         rintro e w54 ⟨rfl, hb⟩
         refine ⟨_, rfl, ?_⟩
         replace BK312 := kb_ BK312 hb
         replace BK316 := kb_ BK316 hb
         replace HB := Aside0.mk (below_step oB hb)
         refine hk_ hK 29 oH (fun hHeld => ?_)
         clear hK K
         refine pu_ 2 30 HT_ ?_
         refine pu_ 3 31 HT_ ?_
         refine pn_ 4 32 HT_ ?_
         refine pn_ 5 33 HT_ ?_
         refine pn_ 6 34 HT_ ?_
         refine pn_ 7 35 HT_ ?_
         refine pn_ 8 36 HT_ ?_
         refine pu_ 9 37 HT_ ?_
         refine pu_ 10 38 HT_ ?_
         refine pn_ 11 39 HT_ ?_
         refine pn_ 12 40 HT_ ?_
         refine pn_ 13 41 HT_ ?_
         refine pn_ 14 42 HT_ ?_
         refine pn_ 15 43 HT_ ?_
         refine pn_ 16 44 HT_ ?_
         refine pn_ 17 45 HT_ ?_
         refine pn_ 18 46 HT_ ?_
         refine pn_ 19 47 HT_ ?_
         refine pn_ 20 48 HT_ ?_
         refine pn_ 21 49 HT_ ?_
         refine pn_ 22 50 HT_ ?_
         refine pn_ 23 51 HT_ ?_
         refine pn_ 24 52 HT_ ?_
         refine pu_ 25 53 HT_ ?_
         refine dn_ HT_ ?_
         try go_wp2
         go_ret
         exact ⟨oE, oB⟩
       ·cases H
      ·by_cases c55 : 0 < (l0_0.length : Int)
       ·rw [if_pos c55] at H
        have c55b0 : decide (0 < (l0_0.length : Int)) = true := decide_eq_true c55
        have c55b1 : decide (0 < l0_0.length) = true := decide_eq_true (by omega)
        clear c55
        by_cases c56 : ((rd_T40 l0_0 0).f0) = 1
        ·rw [if_pos c56] at H
         have c56b0 : (((rd_T40 l0_0 0).f0) == 1) = true := beq_iff_eq.mpr c56
         have c56b1 : (((rd_T40 l0_0 0).f0) != 1) = false := bne_eq_false_iff_eq.mpr c56
         clear c56
         obtain rfl := Option.some.inj H
         obtain ⟨⟨_, _⟩, _, _⟩ := z2 BK312
         have p319 : 0 ≤ (0 : Int) := (by omega)
         have q319 : 0 < (l0_0.length : Int) := oa
         obtain ⟨ad319, A319_3, c319_3, A319_4, c319_4, A319_5, c319_5, e319, hx319_0, hx319_1, hx319_2, hx319_3, hx319_4, hx319_5, hl319_3, hi319_3, hl319_4, hi319_4, hl319_5, hi319_5⟩ := at_T40 HR0_0.out 0 p319 q319
         cases e319
         have qi319 : (0 < l0_0.length) = True := eq_true (by omega)
         (try rw [show ((0 : Int)).toNat = 0 from rfl] at hx319_0)
         (try rw [show 0 * 6 = 0 from rfl] at hx319_0)
         (try rw [Addr.add_zero'] at hx319_0)
         (try rw [show ((0 : Int)).toNat = 0 from rfl] at hx319_1)
         (try rw [show 0 * 6 = 0 from rfl] at hx319_1)
         (try rw [Addr.add_zero'] at hx319_1)
         (try rw [show ((0 : Int)).toNat = 0 from rfl] at hx319_2)
         (try rw [show 0 * 6 = 0 from rfl] at hx319_2)
         (try rw [Addr.add_zero'] at hx319_2)
         (try rw [show ((0 : Int)).toNat = 0 from rfl] at hx319_3)
         (try rw [show 0 * 6 = 0 from rfl] at hx319_3)
         (try rw [Addr.add_zero'] at hx319_3)
         (try rw [show ((0 : Int)).toNat = 0 from rfl] at hx319_4)
         (try rw [show 0 * 6 = 0 from rfl] at hx319_4)
         (try rw [Addr.add_zero'] at hx319_4)
         (try rw [show ((0 : Int)).toNat = 0 from rfl] at hx319_5)
         (try rw [show 0 * 6 = 0 from rfl] at hx319_5)
         (try rw [Addr.add_zero'] at hx319_5)
         replace hx319_0 := cB HB hx319_0
         replace hx319_1 := cB HB hx319_1
         replace hx319_2 := cB HB hx319_2
         replace hx319_3 := cB HB hx319_3
         replace hx319_4 := cB HB hx319_4
         replace hx319_5 := cB HB hx319_5
         have HR319_3 := Aside0.mk hi319_3
         have HC319_3 := Aside0.mk hl319_3
         clear hi319_3 hl319_3
         have HR319_4 := Aside0.mk hi319_4
         have HC319_4 := Aside0.mk hl319_4
         clear hi319_4 hl319_4
         have HR319_5 := Aside0.mk hi319_5
         have HC319_5 := Aside0.mk hl319_5
         clear hi319_5 hl319_5
         replace p319 := eq_true p319
         replace q319 := eq_true q319
         have p320 : 0 ≤ (0 : Int) := (by omega)
         have q320 : 0 < (l0_0.length : Int) := oa
         obtain ⟨ad320, A320_3, c320_3, A320_4, c320_4, A320_5, c320_5, e320, hx320_0, hx320_1, hx320_2, hx320_3, hx320_4, hx320_5, hl320_3, hi320_3, hl320_4, hi320_4, hl320_5, hi320_5⟩ := at_T40 HR0_0.out 0 p320 q320
         obtain rfl : ad319 = ad320 := (by injection e320)
         have qi320 : (0 < l0_0.length) = True := eq_true (by omega)
         (try rw [show ((0 : Int)).toNat = 0 from rfl] at hx320_0)
         (try rw [show 0 * 6 = 0 from rfl] at hx320_0)
         (try rw [Addr.add_zero'] at hx320_0)
         (try rw [show ((0 : Int)).toNat = 0 from rfl] at hx320_1)
         (try rw [show 0 * 6 = 0 from rfl] at hx320_1)
         (try rw [Addr.add_zero'] at hx320_1)
         (try rw [show ((0 : Int)).toNat = 0 from rfl] at hx320_2)
         (try rw [show 0 * 6 = 0 from rfl] at hx320_2)
         (try rw [Addr.add_zero'] at hx320_2)
         (try rw [show ((0 : Int)).toNat = 0 from rfl] at hx320_3)
         (try rw [show 0 * 6 = 0 from rfl] at hx320_3)
         (try rw [Addr.add_zero'] at hx320_3)
         (try rw [show ((0 : Int)).toNat = 0 from rfl] at hx320_4)
         (try rw [show 0 * 6 = 0 from rfl] at hx320_4)
         (try rw [Addr.add_zero'] at hx320_4)
         (try rw [show ((0 : Int)).toNat = 0 from rfl] at hx320_5)
         (try rw [show 0 * 6 = 0 from rfl] at hx320_5)
         (try rw [Addr.add_zero'] at hx320_5)
         replace hx320_0 := cB HB hx320_0
         replace hx320_1 := cB HB hx320_1
         replace hx320_2 := cB HB hx320_2
         replace hx320_3 := cB HB hx320_3
         replace hx320_4 := cB HB hx320_4
         replace hx320_5 := cB HB hx320_5
         have HR320_3 := Aside0.mk hi320_3
         have HC320_3 := Aside0.mk hl320_3
         clear hi320_3 hl320_3
         have HR320_4 := Aside0.mk hi320_4
         have HC320_4 := Aside0.mk hl320_4
         clear hi320_4 hl320_4
         have HR320_5 := Aside0.mk hi320_5
         have HC320_5 := Aside0.mk hl320_5
         clear hi320_5 hl320_5
         replace p320 := eq_true p320
         replace q320 := eq_true q320
         have ea_ := Option.some.inj (hx319_3.symm.trans hx320_3)
         injection ea_ with ea_ en_ ec_
         subst ea_
         subst ec_
         clear en_
         have ea_ := Option.some.inj (hx319_4.symm.trans hx320_4)
         injection ea_ with ea_ en_ ec_
         subst ea_
         subst ec_
         clear en_
         have ea_ := Option.some.inj (hx319_5.symm.trans hx320_5)
         injection ea_ with ea_ en_ ec_
         subst ea_
         subst ec_
         clear en_
         go_wp2
         go_ret
         exact ⟨oE, oB⟩
        ·rw [if_neg c56] at H
         have c56b0 : (((rd_T40 l0_0 0).f0) == 1) = false := beq_eq_false_iff_ne.mpr c56
         have c56b1 : (((rd_T40 l0_0 0).f0) != 1) = true := bne_iff_ne.mpr c56
         obtain rfl := Option.some.inj H
         obtain ⟨⟨_, _⟩, _, _⟩ := z2 BK312
         have p319 : 0 ≤ (0 : Int) := (by omega)
         have q319 : 0 < (l0_0.length : Int) := oa
         obtain ⟨ad319, A319_3, c319_3, A319_4, c319_4, A319_5, c319_5, e319, hx319_0, hx319_1, hx319_2, hx319_3, hx319_4, hx319_5, hl319_3, hi319_3, hl319_4, hi319_4, hl319_5, hi319_5⟩ := at_T40 HR0_0.out 0 p319 q319
         cases e319
         have qi319 : (0 < l0_0.length) = True := eq_true (by omega)
         (try rw [show ((0 : Int)).toNat = 0 from rfl] at hx319_0)
         (try rw [show 0 * 6 = 0 from rfl] at hx319_0)
         (try rw [Addr.add_zero'] at hx319_0)
         (try rw [show ((0 : Int)).toNat = 0 from rfl] at hx319_1)
         (try rw [show 0 * 6 = 0 from rfl] at hx319_1)
         (try rw [Addr.add_zero'] at hx319_1)
         (try rw [show ((0 : Int)).toNat = 0 from rfl] at hx319_2)
         (try rw [show 0 * 6 = 0 from rfl] at hx319_2)
         (try rw [Addr.add_zero'] at hx319_2)
         (try rw [show ((0 : Int)).toNat = 0 from rfl] at hx319_3)
         (try rw [show 0 * 6 = 0 from rfl] at hx319_3)
         (try rw [Addr.add_zero'] at hx319_3)
         (try rw [show ((0 : Int)).toNat = 0 from rfl] at hx319_4)
         (try rw [show 0 * 6 = 0 from rfl] at hx319_4)
         (try rw [Addr.add_zero'] at hx319_4)
         (try rw [show ((0 : Int)).toNat = 0 from rfl] at hx319_5)
         (try rw [show 0 * 6 = 0 from rfl] at hx319_5)
         (try rw [Addr.add_zero'] at hx319_5)
         replace hx319_0 := cB HB hx319_0
         replace hx319_1 := cB HB hx319_1
         replace hx319_2 := cB HB hx319_2
         replace hx319_3 := cB HB hx319_3
         replace hx319_4 := cB HB hx319_4
         replace hx319_5 := cB HB hx319_5
         have HR319_3 := Aside0.mk hi319_3
         have HC319_3 := Aside0.mk hl319_3
         clear hi319_3 hl319_3
         have HR319_4 := Aside0.mk hi319_4
         have HC319_4 := Aside0.mk hl319_4
         clear hi319_4 hl319_4
         have HR319_5 := Aside0.mk hi319_5
         have HC319_5 := Aside0.mk hl319_5
         clear hi319_5 hl319_5
         replace p319 := eq_true p319
         replace q319 := eq_true q319
         go_wp2
         go_ret
         exact ⟨oE, oB⟩
       ·rw [if_neg c55] at H
        exact absurd H (by simp)

/-! ### spec_LinksOf: function 61 -/
mutual
def spec_LinksOf.l0 : Nat → Int → Int → Int → List (S40) → Int → Option (Int)
 | 0, _, _, _, _, _ => none
 | k + 1, x1, x5, x6, x322000, x322001 => if x6 < (x322000.length : Int) then (spec_LinksOf.l1 k x1 x5 x6 0 x322000 x322001) else (some x5)
def spec_LinksOf.l1 : Nat → Int → Int → Int → Int → List (S40) → Int → Option (Int)
 | 0, _, _, _, _, _, _ => none
 | k + 1, x1, x5, x6, x7, x322000, x322001 => if 0 ≤ x6 then (if x6 < (x322000.length : Int) then (if x7 < (((rd_T40 x322000 x6).f4).length : Int) then (spec_LinksOf.j2 k x1 x5 x6 x7 (((rd_T40 x322000 x6).f1) == 2) x322000 x322001) else (spec_LinksOf.j2 k x1 x5 x6 x7 false x322000 x322001)) else (none)) else (none)
def spec_LinksOf.j2 : Nat → Int → Int → Int → Int → Bool → List (S40) → Int → Option (Int)
 | 0, _, _, _, _, _, _, _ => none
 | k + 1, x1, x5, x6, x7, x32, x322000, x322001 => if x32 = true then (if 0 ≤ x6 then (if x6 < (x322000.length : Int) then (if 0 ≤ x7 then (if x7 < (((rd_T40 x322000 x6).f4).length : Int) then (if ((rd_T82 ((rd_T40 x322000 x6).f4) x7).f1) = x1 then (spec_LinksOf.l1 k x1 (wrap64 (x5 + 1)) x6 (wrap64 (x7 + 1)) x322000 x322001) else (spec_LinksOf.l1 k x1 x5 x6 (wrap64 (x7 + 1)) x322000 x322001)) else (none)) else (none)) else (none)) else (none)) else (spec_LinksOf.l0 k x1 x5 (wrap64 (x6 + 1)) x322000 x322001)
end
def spec_LinksOf.f (k : Nat) (l0_0 : List (S40)) (a0_1 : Int) (a1 : Int) : Option (Int) := spec_LinksOf.l0 k a1 0 0 l0_0 a0_1
set_option maxHeartbeats 8000000 in
set_option maxRecDepth 100000 in
theorem spec_LinksOf.calls (k : Nat) (A0_0 : Option Addr) (c0_0 : Nat) (l0_0 : List (S40)) (a0_1 : Int) (a1 : Int) (r : Int) (w : World) (hr0_0 : Kd.C k40 w A0_0 l0_0.length l0_0) (hc0_0 : l0_0.length ≤ c0_0) (h : spec_LinksOf.f k l0_0 a0_1 a1 = some r) :
  Calls Try.prog 61 #[.agg #[.slice A0_0 l0_0.length c0_0, .int .i64 a0_1], .int .i64 a1] w fun e w' => e = .returned (.int .i64 r) ∧ Below w.heap.size w w' := by
 have hu34 := Try.underlying34
 have HR0_0 := Aside0.mk hr0_0
 have HC0_0 := Aside0.mk hc0_0
 clear hr0_0 hc0_0
 have HB := Aside0.mk (Below.refl w.heap.size w)
 unfold spec_LinksOf.f at h
 have H := h
 clear h
 have H' := Aside0.mk H
 clear H
 go_enter Try.func61, Try.ntmps61
 go_wp2_with (first | ((with_reducible refine gate_dst (N := 2) rfl ?_); refine bx_ 2 #[.slice A0_0 l0_0.length c0_0, .int .i64 a0_1] 34 ?_; intro gb321 hg w3 hbox hb; have BK321 := Aside0.mk (hbox); have GW321 := gs_ hg; replace HB := Aside0.mk (below_step oB hb); clear hb hbox hg))
 go_loopg [5, 6] k (fun kq v5 v6 w' => ∃ (x5_1 : Int) (x6_1 : Int), v5 = .int .i64 x5_1 ∧ v6 = .int .i64 x6_1 ∧ Aside0 (spec_LinksOf.l0 kq a1 x5_1 x6_1 l0_0 a0_1 = some r) ∧ Aside0 (kq ≤ k) ∧ Aside0 (w'.heap[gb321]? = some (.cells #[(.slice A0_0 l0_0.length c0_0), .int .i64 a0_1] 34 (0, 0))) ∧ Aside0 (Below w.heap.size w w'))
 case atStart => exact ⟨(0), (0), oS, oS, H', ⟨Nat.le_refl _⟩, ⟨oF BK321⟩, ⟨oB⟩⟩
 case round =>
  clear H'
  obtain ⟨x5_1, x6_1, rfl, rfl, HA, HK1, BK321, HB⟩ := hrel
  cases gk with
  | zero => exact absurd HA.out (by simp [spec_LinksOf.l0])
  | succ k1 =>
   have H := HA.out
   clear HA
   simp only [spec_LinksOf.l0] at H
   replace H := itD H
   rcases H with ⟨c4b0, H⟩ | ⟨c4b0, H⟩
   ·have H' := Aside0.mk H
    clear H
    obtain ⟨⟨_, _⟩, _, _⟩ := z2 BK321
    go_wp2
    go_loopg [5, 7] k1 (fun kq v5 v7 w' => ∃ (x5_2 : Int) (x7_2 : Int), v5 = .int .i64 x5_2 ∧ v7 = .int .i64 x7_2 ∧ Aside0 (spec_LinksOf.l1 kq a1 x5_2 x6_1 x7_2 l0_0 a0_1 = some r) ∧ Aside0 (kq ≤ k1) ∧ Aside0 (w'.heap[gb321]? = some (.cells #[(.slice A0_0 l0_0.length c0_0), .int .i64 a0_1] 34 (0, 0))) ∧ Aside0 (Below w.heap.size w w'))
    case atStart => exact ⟨(x5_1), (0), oS, oS, H', ⟨Nat.le_refl _⟩, ⟨oF BK321⟩, ⟨oB⟩⟩
    case round =>
     clear H'
     try clear c4b0
     obtain ⟨x5_2, x7_2, rfl, rfl, HA, HK2, BK321, HB⟩ := hrel
     cases gk with
     | zero => exact absurd HA.out (by simp [spec_LinksOf.l1])
     | succ k2 =>
      have H := HA.out
      clear HA
      simp only [spec_LinksOf.l1] at H
      have HC6 := Aside0.mk H
      clear H
      go_upto_region 6 with (fail)
      go_cut [32] (fun v32 wc => ∃ (kq : Nat) (x32_5 : Bool), v32 = .bool x32_5 ∧ Aside0 (spec_LinksOf.j2 kq a1 x5_2 x6_1 x7_2 x32_5 l0_0 a0_1 = some r) ∧ Aside0 (kq ≤ k2) ∧ Aside0 (wc.heap[gb321]? = some (.cells #[(.slice A0_0 l0_0.length c0_0), .int .i64 a0_1] 34 (0, 0))) ∧ Aside0 (Below w.heap.size w wc))
      case first =>
       have H := HC6.out
       clear HC6
       replace H := itD H
       rcases H with ⟨c7b0, H⟩ | ⟨c7b0, H⟩
       ·(first | rw [c7b0] | rw [c7b2] | (simp only [i64_w, i32_w]; rw [c7b0]) | skip)
        replace H := itD H
        rcases H with ⟨c8b0, H⟩ | ⟨c8b0, H⟩
        ·replace H := itD H
         rcases H with ⟨c9b0, H⟩ | ⟨c9b0, H⟩
         ·have H' := Aside0.mk H
          clear H
          obtain ⟨⟨_, _⟩, _, _⟩ := z2 BK321
          have p322 : (0 ≤ (x6_1 : Int)) = True := oT
          have q322 : (x6_1 < (l0_0.length : Int)) = True := oT
          obtain ⟨ad322, A322_3, c322_3, A322_4, c322_4, A322_5, c322_5, e322, hx322_0, hx322_1, hx322_2, hx322_3, hx322_4, hx322_5, hl322_3, hi322_3, hl322_4, hi322_4, hl322_5, hi322_5⟩ := at_T40 HR0_0.out x6_1 oa oa
          cases e322
          replace hx322_0 := cB HB hx322_0
          replace hx322_1 := cB HB hx322_1
          replace hx322_2 := cB HB hx322_2
          replace hx322_3 := cB HB hx322_3
          replace hx322_4 := cB HB hx322_4
          replace hx322_5 := cB HB hx322_5
          have HR322_3 := Aside0.mk hi322_3
          have HC322_3 := Aside0.mk hl322_3
          clear hi322_3 hl322_3
          have HR322_4 := Aside0.mk hi322_4
          have HC322_4 := Aside0.mk hl322_4
          clear hi322_4 hl322_4
          have HR322_5 := Aside0.mk hi322_5
          have HC322_5 := Aside0.mk hl322_5
          clear hi322_5 hl322_5
          have p323 : (0 ≤ (x6_1 : Int)) = True := oT
          have q323 : (x6_1 < (l0_0.length : Int)) = True := oT
          obtain ⟨ad323, A323_3, c323_3, A323_4, c323_4, A323_5, c323_5, e323, hx323_0, hx323_1, hx323_2, hx323_3, hx323_4, hx323_5, hl323_3, hi323_3, hl323_4, hi323_4, hl323_5, hi323_5⟩ := at_T40 HR0_0.out x6_1 oa oa
          obtain rfl : ad322 = ad323 := (by injection e323)
          replace hx323_0 := cB HB hx323_0
          replace hx323_1 := cB HB hx323_1
          replace hx323_2 := cB HB hx323_2
          replace hx323_3 := cB HB hx323_3
          replace hx323_4 := cB HB hx323_4
          replace hx323_5 := cB HB hx323_5
          have HR323_3 := Aside0.mk hi323_3
          have HC323_3 := Aside0.mk hl323_3
          clear hi323_3 hl323_3
          have HR323_4 := Aside0.mk hi323_4
          have HC323_4 := Aside0.mk hl323_4
          clear hi323_4 hl323_4
          have HR323_5 := Aside0.mk hi323_5
          have HC323_5 := Aside0.mk hl323_5
          clear hi323_5 hl323_5
          have ea_ := Option.some.inj (hx322_3.symm.trans hx323_3)
          injection ea_ with ea_ en_ ec_
          subst ea_
          subst ec_
          clear en_
          have ea_ := Option.some.inj (hx322_4.symm.trans hx323_4)
          injection ea_ with ea_ en_ ec_
          subst ea_
          subst ec_
          clear en_
          have ea_ := Option.some.inj (hx322_5.symm.trans hx323_5)
          injection ea_ with ea_ en_ ec_
          subst ea_
          subst ec_
          clear en_
          go_wp2
          go_meet
          case rel => exact ⟨_, ((((rd_T40 l0_0 x6_1).f1) == 2)), oS, H', ⟨by have := HK1.out; have := HK2.out; first | omega | exact Nat.le_refl _⟩, ⟨oF BK321⟩, ⟨oB⟩⟩
         ·have H' := Aside0.mk H
          clear H
          obtain ⟨⟨_, _⟩, _, _⟩ := z2 BK321
          have p322 : (0 ≤ (x6_1 : Int)) = True := oT
          have q322 : (x6_1 < (l0_0.length : Int)) = True := oT
          obtain ⟨ad322, A322_3, c322_3, A322_4, c322_4, A322_5, c322_5, e322, hx322_0, hx322_1, hx322_2, hx322_3, hx322_4, hx322_5, hl322_3, hi322_3, hl322_4, hi322_4, hl322_5, hi322_5⟩ := at_T40 HR0_0.out x6_1 oa oa
          cases e322
          replace hx322_0 := cB HB hx322_0
          replace hx322_1 := cB HB hx322_1
          replace hx322_2 := cB HB hx322_2
          replace hx322_3 := cB HB hx322_3
          replace hx322_4 := cB HB hx322_4
          replace hx322_5 := cB HB hx322_5
          have HR322_3 := Aside0.mk hi322_3
          have HC322_3 := Aside0.mk hl322_3
          clear hi322_3 hl322_3
          have HR322_4 := Aside0.mk hi322_4
          have HC322_4 := Aside0.mk hl322_4
          clear hi322_4 hl322_4
          have HR322_5 := Aside0.mk hi322_5
          have HC322_5 := Aside0.mk hl322_5
          clear hi322_5 hl322_5
          go_wp2
          go_meet
          case rel => exact ⟨_, (false), oS, H', ⟨by have := HK1.out; have := HK2.out; first | omega | exact Nat.le_refl _⟩, ⟨oF BK321⟩, ⟨oB⟩⟩
        ·cases H
       ·cases H
      case rest =>
       clear HC6
       try clear c4b0
       obtain ⟨kq, x32_5, rfl, HA, HJ5, BK321, HB⟩ := hcut
       cases kq with
       | zero => exact absurd HA.out (by simp [spec_LinksOf.j2])
       | succ kj5 =>
        have H := HA.out
        clear HA
        simp only [spec_LinksOf.j2] at H
        replace H := itB H
        rcases H with ⟨rfl, H⟩ | ⟨rfl, H⟩
        ·replace H := itD H
         rcases H with ⟨c13b0, H⟩ | ⟨c13b0, H⟩
         ·replace H := itD H
          rcases H with ⟨c14b0, H⟩ | ⟨c14b0, H⟩
          ·replace H := itD H
           rcases H with ⟨c15b0, H⟩ | ⟨c15b0, H⟩
           ·replace H := itD H
            rcases H with ⟨c16b0, H⟩ | ⟨c16b0, H⟩
            ·by_cases c17 : ((rd_T82 ((rd_T40 l0_0 x6_1).f4) x7_2).f1) = a1
             ·rw [if_pos c17] at H
              have c17b0 : (((rd_T82 ((rd_T40 l0_0 x6_1).f4) x7_2).f1) == a1) = true := beq_iff_eq.mpr c17
              have c17b1 : (((rd_T82 ((rd_T40 l0_0 x6_1).f4) x7_2).f1) != a1) = false := bne_eq_false_iff_eq.mpr c17
              clear c17
              have H' := Aside0.mk H
              clear H
              obtain ⟨⟨_, _⟩, _, _⟩ := z2 BK321
              have p324 : (0 ≤ (x6_1 : Int)) = True := oT
              have q324 : (x6_1 < (l0_0.length : Int)) = True := oT
              obtain ⟨ad324, A324_3, c324_3, A324_4, c324_4, A324_5, c324_5, e324, hx324_0, hx324_1, hx324_2, hx324_3, hx324_4, hx324_5, hl324_3, hi324_3, hl324_4, hi324_4, hl324_5, hi324_5⟩ := at_T40 HR0_0.out x6_1 oa oa
              cases e324
              replace hx324_0 := cB HB hx324_0
              replace hx324_1 := cB HB hx324_1
              replace hx324_2 := cB HB hx324_2
              replace hx324_3 := cB HB hx324_3
              replace hx324_4 := cB HB hx324_4
              replace hx324_5 := cB HB hx324_5
              have HR324_3 := Aside0.mk hi324_3
              have HC324_3 := Aside0.mk hl324_3
              clear hi324_3 hl324_3
              have HR324_4 := Aside0.mk hi324_4
              have HC324_4 := Aside0.mk hl324_4
              clear hi324_4 hl324_4
              have HR324_5 := Aside0.mk hi324_5
              have HC324_5 := Aside0.mk hl324_5
              clear hi324_5 hl324_5
              have p325 : (0 ≤ (x7_2 : Int)) = True := oT
              have q325 : (x7_2 < (((rd_T40 l0_0 x6_1).f4).length : Int)) = True := oT
              obtain ⟨ad325, e325, hx325_0, hx325_1⟩ := at_T82 HR324_4.out x7_2 oa oa
              cases e325
              replace hx325_0 := cB HB hx325_0
              replace hx325_1 := cB HB hx325_1
              go_wp2
              go_roundg kj5
              case measure => have := HK1.out; have := HK2.out; have := HJ5.out; omega
              case rel => exact ⟨(wrap64 (x5_2 + 1)), (wrap64 (x7_2 + 1)), oS, oS, H', ⟨by have := HK1.out; have := HK2.out; have := HJ5.out; omega⟩, ⟨oF BK321⟩, ⟨oB⟩⟩
             ·rw [if_neg c17] at H
              have c17b0 : (((rd_T82 ((rd_T40 l0_0 x6_1).f4) x7_2).f1) == a1) = false := beq_eq_false_iff_ne.mpr c17
              have c17b1 : (((rd_T82 ((rd_T40 l0_0 x6_1).f4) x7_2).f1) != a1) = true := bne_iff_ne.mpr c17
              have H' := Aside0.mk H
              clear H
              obtain ⟨⟨_, _⟩, _, _⟩ := z2 BK321
              have p324 : (0 ≤ (x6_1 : Int)) = True := oT
              have q324 : (x6_1 < (l0_0.length : Int)) = True := oT
              obtain ⟨ad324, A324_3, c324_3, A324_4, c324_4, A324_5, c324_5, e324, hx324_0, hx324_1, hx324_2, hx324_3, hx324_4, hx324_5, hl324_3, hi324_3, hl324_4, hi324_4, hl324_5, hi324_5⟩ := at_T40 HR0_0.out x6_1 oa oa
              cases e324
              replace hx324_0 := cB HB hx324_0
              replace hx324_1 := cB HB hx324_1
              replace hx324_2 := cB HB hx324_2
              replace hx324_3 := cB HB hx324_3
              replace hx324_4 := cB HB hx324_4
              replace hx324_5 := cB HB hx324_5
              have HR324_3 := Aside0.mk hi324_3
              have HC324_3 := Aside0.mk hl324_3
              clear hi324_3 hl324_3
              have HR324_4 := Aside0.mk hi324_4
              have HC324_4 := Aside0.mk hl324_4
              clear hi324_4 hl324_4
              have HR324_5 := Aside0.mk hi324_5
              have HC324_5 := Aside0.mk hl324_5
              clear hi324_5 hl324_5
              have p325 : (0 ≤ (x7_2 : Int)) = True := oT
              have q325 : (x7_2 < (((rd_T40 l0_0 x6_1).f4).length : Int)) = True := oT
              obtain ⟨ad325, e325, hx325_0, hx325_1⟩ := at_T82 HR324_4.out x7_2 oa oa
              cases e325
              replace hx325_0 := cB HB hx325_0
              replace hx325_1 := cB HB hx325_1
              go_wp2
              go_roundg kj5
              case measure => have := HK1.out; have := HK2.out; have := HJ5.out; omega
              case rel => exact ⟨(x5_2), (wrap64 (x7_2 + 1)), oS, oS, H', ⟨by have := HK1.out; have := HK2.out; have := HJ5.out; omega⟩, ⟨oF BK321⟩, ⟨oB⟩⟩
            ·cases H
           ·cases H
          ·cases H
         ·cases H
        ·have H' := Aside0.mk H
         clear H
         go_wp2
         go_roundg kj5
         case measure => have := HK1.out; have := HK2.out; have := HJ5.out; omega
         case rel => exact ⟨(x5_2), (wrap64 (x6_1 + 1)), oS, oS, H', ⟨by have := HK1.out; have := HK2.out; have := HJ5.out; omega⟩, ⟨oF BK321⟩, ⟨oB⟩⟩
   ·obtain rfl := Option.some.inj H
    obtain ⟨⟨_, _⟩, _, _⟩ := z2 BK321
    go_wp2
    go_ret
    exact ⟨oE, oB⟩

end Go.Proofs.Ytmndnegpclaidaa.P
