-- By this session's own program (wip/myprint.py) out of the translation; Lean checks it.
import Derived.Test.YtmndnegpclaidaaPx0
import Derived.Test.YtmndnegpclaidaaPx1
import Derived.Test.YtmndnegpclaidaaPx2
import Derived.Test.YtmndnegpclaidaaPx5
import Derived.Test.YtmndnegpclaidaaPx7
namespace Go.Proofs.Ytmndnegpclaidaa.P
open Go.RowKit Go.Proofs.YtmndnegpclaidaaW.PrintWords Go.Proofs.YtmndnegpclaidaaW.PrintLast Go.Proofs.YtmndnegpclaidaaW.PrintMore
attribute [local go_sem] max2_int min2_int max_two min_two max_three min_three max_four min_four   -- for this text's walks alone
set_option linter.unusedVariables false
set_option linter.unusedSimpArgs false

/-! ### impl_TreeOk: function 24 -/
mutual
def impl_TreeOk.j0 : Nat → Bool → List (S40) → Int → Option (Bool)
 | 0, _, _, _ => none
 | k + 1, x18, x455000, x455001 => if x18 = true then (some false) else (impl_TreeOk.l0 k x455000 (x455000.length : Int) 0 x455000 x455001)
def impl_TreeOk.l0 : Nat → List (S40) → Int → Int → List (S40) → Int → Option (Bool)
 | 0, _, _, _, _, _ => none
 | k + 1, x20, x21, x22, x455000, x455001 => if x22 < x21 then (if 0 ≤ x22 then (if x22 < (x20.length : Int) then ((impl_LinksOf.f k x455000 x455001 ((rd_T40 x20 x22).f0)).bind fun t461 => (if ((rd_T40 x20 x22).f2) = t461 then (impl_TreeOk.l1 k x20 x21 x22 ((rd_T40 x20 x22).f4) (((rd_T40 x20 x22).f4).length : Int) 0 x455000 x455001) else (some false))) else (none)) else (none)) else (some true)
def impl_TreeOk.l1 : Nat → List (S40) → Int → Int → List (S82) → Int → Int → List (S40) → Int → Option (Bool)
 | 0, _, _, _, _, _, _, _, _ => none
 | k + 1, x20, x21, x22, x34, x35, x36, x455000, x455001 => if x36 < x35 then (if 0 ≤ x36 then (if x36 < (x34.length : Int) then ((impl_placeOf.f k x455000 x455001 ((rd_T82 x34 x36).f1)).bind fun t464 => (if t464 < 0 then (some false) else (impl_TreeOk.l1 k x20 x21 x22 x34 x35 (wrap64 (x36 + 1)) x455000 x455001))) else (none)) else (none)) else (impl_TreeOk.l0 k x20 x21 (wrap64 (x22 + 1)) x455000 x455001)
end
def impl_TreeOk.f (k : Nat) (l0_0 : List (S40)) (a0_1 : Int) : Option (Bool) := (impl_TabOk.f k l0_0 a0_1).bind fun t455 => (if t455 = true then ((impl_Reached.f k l0_0 a0_1).bind fun t456 => (impl_TreeOk.j0 k ((t456.length : Int) != (l0_0.length : Int)) l0_0 a0_1)) else (impl_TreeOk.j0 k true l0_0 a0_1))
def impl_TreeOk.T1 : Bool × List (List Nat × List Nat) := (true, [([], []), ([0], [0]), ([1], [1]), ([2, 1], [2]), ([3], [3]), ([4, 3, 3], [3, 4]), ([5, 3], [3, 5]), ([3], [3]), ([7, 3], [3, 7]), ([8, 3], [3, 8]), ([6, 9, 3], [3, 6, 9]), ([3, 10], [3, 10])])
def impl_TreeOk.B1 : List Nat := [0, 1, 3, 7, 15, 31, 63, 15, 143, 399, 1023, 2047]
theorem impl_TreeOk.tab1 : rtab .any (opsOf Try.f24 1) = impl_TreeOk.T1 := by kernel_rfl
theorem impl_TreeOk.bits1 : waitsOk impl_TreeOk.T1.2 impl_TreeOk.B1 = true := by kernel_rfl
set_option maxHeartbeats 8000000 in
set_option maxRecDepth 100000 in
theorem impl_TreeOk.calls (k : Nat) (A0_0 : Option Addr) (c0_0 : Nat) (l0_0 : List (S40)) (a0_1 : Int) (r : Bool) (w : World) (hr0_0 : Kd.C k40 w A0_0 l0_0.length l0_0) (hc0_0 : l0_0.length ≤ c0_0) (h : impl_TreeOk.f k l0_0 a0_1 = some r) :
  Calls Try.prog 24 #[.agg #[.slice A0_0 l0_0.length c0_0, .int .i64 a0_1]] w fun e w' => e = .returned (.bool r) ∧ Below w.heap.size w w' := by
 have hu34 := Try.underlying34
 have hu40 := Try.underlying40
 have hu82 := Try.underlying82
 have HR0_0 := Aside0.mk hr0_0
 have HC0_0 := Aside0.mk hc0_0
 clear hr0_0 hc0_0
 have HB := Aside0.mk (Below.refl w.heap.size w)
 unfold impl_TreeOk.f at h
 have H := h
 clear h
 have HC2 := Aside0.mk H
 clear H
 go_enter Try.func24, Try.ntmps24
 go_upto_region 1 with (first | ((with_reducible refine gate_dst (N := 1) rfl ?_); (try (refine gate_guard (by rfl) ?_; dsimp only)); refine bx_ 1 #[.slice A0_0 l0_0.length c0_0, .int .i64 a0_1] 34 ?_; intro gb454 hg w3 hbox hb; have BK454 := Aside0.mk (hbox); have GW454 := gs_ hg; replace HB := Aside0.mk (below_step oB hb); clear hb hbox hg))
 (try simp only [Act.put, List.setIfInBounds_toArray, List.set_cons_zero, List.set_cons_succ])
 go_cut [18] (fun v18 wc => ∃ (kq : Nat) (x18_1 : Bool), v18 = .bool x18_1 ∧ Aside0 (impl_TreeOk.j0 kq x18_1 l0_0 a0_1 = some r) ∧ Aside0 (kq ≤ k) ∧ Aside0 (wc.heap[gb454]? = some (.cells #[(.slice A0_0 l0_0.length c0_0), .int .i64 a0_1] 34 (0, 0))) ∧ Aside0 (Below w.heap.size w wc))
 case first =>
  have H := HC2.out
  clear HC2
  replace H := bA H
  obtain ⟨t455, A4, H⟩ := H
  try dsimp only at H
  replace H := itB H
  rcases H with ⟨rfl, H⟩ | ⟨rfl, H⟩
  ·replace H := bA H
   obtain ⟨t456, A6, H⟩ := H
   try dsimp only at H
   have H' := Aside0.mk H
   clear H
   try go_wp2
   replace BK454 := Aside0.mk (blk_drew BK454.out)
   replace HB := Aside0.mk (below_drew1 HB.out)
   refine st_ 12 (fun w' => w'.cell? ⟨gb454, 0, none⟩ = some (.slice A0_0 l0_0.length c0_0) ∧ w'.cell? ⟨gb454, 1, none⟩ = some (.int .i64 a0_1)) impl_TreeOk.tab1 impl_TreeOk.bits1 oH (fun hHeld HT_ HW_ => ?_)
   generalize w3.drew = w7 at BK454 HB hHeld ⊢
   refine ta_ 0 7 HT_ HW_ hHeld ?_
   refine on_ 1 8 HT_ (fun K hK => ?_)
   refine gr_ 8 Try.func62 (impl_TabOk.calls k _ _ l0_0 a0_1 true _ (kC HR0_0) HC0_0.out A4.out) ?_
   rintro e w8 ⟨rfl, hb⟩
   refine ⟨_, rfl, ?_⟩
   replace BK454 := kb_ BK454 hb
   replace HB := Aside0.mk (below_step oB hb)
   refine hk_ hK 8 oH (fun hHeld => ?_)
   clear hK K
   refine pu_ 2 9 HT_ ?_
   refine pu_ 3 10 HT_ ?_
   refine pu_ 7 14 HT_ ?_
   refine ta_ 4 11 HT_ HW_ hHeld ?_
   refine ta_ 8 15 HT_ HW_ hHeld ?_
   refine pu_ 9 16 HT_ ?_
   refine on_ 5 12 HT_ (fun K hK => ?_)
   refine gr_ 12 Try.func19 (impl_Reached.calls k _ _ l0_0 a0_1 t456 _ (kC HR0_0) HC0_0.out A6.out) ?_
   rintro e w9 ⟨v457, rfl, ho0, hb⟩
   refine ⟨_, rfl, ?_⟩
   have HO458 := Aside0.mk (Kd.R_lower ho0 (below_size oB))
   replace BK454 := kb_ BK454 hb
   replace HB := Aside0.mk (below_step oB hb)
   obtain ⟨Ao10, co10, eo10⟩ := Kd.R_slice HO458.out
   (first | subst eo10 | (injection eo10 with f1_ f2_ f3_; have f4_ := f1_.symm; have f5_ := f3_.symm; clear f1_ f2_ f3_; subst f4_; subst f5_))
   refine hk_ hK 12 oH (fun hHeld => ?_)
   clear hK K
   refine pu_ 6 13 HT_ ?_
   refine pu_ 10 17 HT_ ?_
   refine pu_ 11 18 HT_ ?_
   refine dn_ HT_ ?_
   try go_wp2
   go_meet
   case rel => exact ⟨_, (((t456.length : Int) != (l0_0.length : Int))), oS, H', ⟨by first | omega | exact Nat.le_refl _⟩, ⟨oF BK454⟩, ⟨oB⟩⟩
  ·have H' := Aside0.mk H
   clear H
   try go_wp2
   replace BK454 := Aside0.mk (blk_drew BK454.out)
   replace HB := Aside0.mk (below_drew1 HB.out)
   refine st_ 12 (fun w' => w'.cell? ⟨gb454, 0, none⟩ = some (.slice A0_0 l0_0.length c0_0) ∧ w'.cell? ⟨gb454, 1, none⟩ = some (.int .i64 a0_1)) impl_TreeOk.tab1 impl_TreeOk.bits1 oH (fun hHeld HT_ HW_ => ?_)
   generalize w3.drew = w11 at BK454 HB hHeld ⊢
   refine ta_ 0 7 HT_ HW_ hHeld ?_
   refine on_ 1 8 HT_ (fun K hK => ?_)
   refine gr_ 8 Try.func62 (impl_TabOk.calls k _ _ l0_0 a0_1 false _ (kC HR0_0) HC0_0.out A4.out) ?_
   rintro e w12 ⟨rfl, hb⟩
   refine ⟨_, rfl, ?_⟩
   replace BK454 := kb_ BK454 hb
   replace HB := Aside0.mk (below_step oB hb)
   refine hk_ hK 8 oH (fun hHeld => ?_)
   clear hK K
   refine pu_ 2 9 HT_ ?_
   refine pu_ 3 10 HT_ ?_
   refine pn_ 4 11 HT_ ?_
   refine pn_ 5 12 HT_ ?_
   refine pn_ 6 13 HT_ ?_
   refine pn_ 7 14 HT_ ?_
   refine pn_ 8 15 HT_ ?_
   refine pn_ 9 16 HT_ ?_
   refine pn_ 10 17 HT_ ?_
   refine pu_ 11 18 HT_ ?_
   refine dn_ HT_ ?_
   try go_wp2
   go_meet
   case rel => exact ⟨_, (true), oS, H', ⟨by first | omega | exact Nat.le_refl _⟩, ⟨oF BK454⟩, ⟨oB⟩⟩
 case rest =>
  clear HC2
  obtain ⟨kq, x18_1, rfl, HA, HJ1, BK454, HB⟩ := hcut
  cases kq with
  | zero => exact absurd HA.out (by simp [impl_TreeOk.j0])
  | succ kj1 =>
   have H := HA.out
   clear HA
   simp only [impl_TreeOk.j0] at H
   replace H := itB H
   rcases H with ⟨rfl, H⟩ | ⟨rfl, H⟩
   ·obtain rfl := Option.some.inj H
    go_wp2
    go_ret
    exact ⟨oE, oB⟩
   ·have H' := Aside0.mk H
    clear H
    obtain ⟨⟨_, _⟩, _, _⟩ := z2 BK454
    go_wp2
    go_loopg [22] kj1 (fun kq v22 w' => ∃ (x22_2 : Int), v22 = .int .i64 x22_2 ∧ Aside0 (impl_TreeOk.l0 kq l0_0 (l0_0.length : Int) x22_2 l0_0 a0_1 = some r) ∧ Aside0 (kq ≤ kj1) ∧ Aside0 (w'.heap[gb454]? = some (.cells #[(.slice A0_0 l0_0.length c0_0), .int .i64 a0_1] 34 (0, 0))) ∧ Aside0 (Below w.heap.size w w'))
    case atStart => exact ⟨(0), oS, H', ⟨Nat.le_refl _⟩, ⟨oF BK454⟩, ⟨oB⟩⟩
    case round =>
     clear H'
     obtain ⟨x22_2, rfl, HA, HK2, BK454, HB⟩ := hrel
     cases gk with
     | zero => exact absurd HA.out (by simp [impl_TreeOk.l0])
     | succ k2 =>
      have H := HA.out
      clear HA
      simp only [impl_TreeOk.l0] at H
      replace H := itD H
      rcases H with ⟨c15b0, H⟩ | ⟨c15b0, H⟩
      ·replace H := itD H
       rcases H with ⟨c16b0, H⟩ | ⟨c16b0, H⟩
       ·replace H := itD H
        rcases H with ⟨c17b0, H⟩ | ⟨c17b0, H⟩
        ·replace H := bA H
         obtain ⟨t461, A18, H⟩ := H
         try dsimp only at H
         by_cases c19 : ((rd_T40 l0_0 x22_2).f2) = t461
         ·rw [if_pos c19] at H
          have c19b0 : (((rd_T40 l0_0 x22_2).f2) == t461) = true := beq_iff_eq.mpr c19
          have c19b1 : (((rd_T40 l0_0 x22_2).f2) != t461) = false := bne_eq_false_iff_eq.mpr c19
          clear c19
          have H' := Aside0.mk H
          clear H
          have p459 : (0 ≤ (x22_2 : Int)) = True := oT
          have q459 : (x22_2 < (l0_0.length : Int)) = True := oT
          obtain ⟨ad459, A459_3, c459_3, A459_4, c459_4, A459_5, c459_5, e459, hx459_0, hx459_1, hx459_2, hx459_3, hx459_4, hx459_5, hl459_3, hi459_3, hl459_4, hi459_4, hl459_5, hi459_5⟩ := at_T40 HR0_0.out x22_2 oa oa
          cases e459
          replace hx459_0 := cB HB hx459_0
          replace hx459_1 := cB HB hx459_1
          replace hx459_2 := cB HB hx459_2
          replace hx459_3 := cB HB hx459_3
          replace hx459_4 := cB HB hx459_4
          replace hx459_5 := cB HB hx459_5
          have HR459_3 := Aside0.mk hi459_3
          have HC459_3 := Aside0.mk hl459_3
          clear hi459_3 hl459_3
          have HR459_4 := Aside0.mk hi459_4
          have HC459_4 := Aside0.mk hl459_4
          clear hi459_4 hl459_4
          have HR459_5 := Aside0.mk hi459_5
          have HC459_5 := Aside0.mk hl459_5
          clear hi459_5 hl459_5
          try go_wp2_with (first | ((with_reducible refine gate_dst (N := 4) rfl ?_); (try (refine gate_guard (by rfl) ?_; dsimp only)); refine bx_ 4 #[.int .i64 0, .int .i64 0, .int .i64 0, .slice none 0 0, .slice none 0 0, .slice none 0 0] 40 ?_; intro gb460 hg w20 hbox hb; have BK460 := Aside0.mk (hbox); have GW460 := gs_ hg; have NB454_460 := nl_ hg BK454; have NB460_454 := nr_ hg BK454; replace BK454 := kb_ BK454 hb; replace HB := Aside0.mk (below_step oB hb); clear hb hbox hg; have hnb21 := NB460_454.out; have hnc21 := NB454_460.out; obtain ⟨⟨_, _, _, _, _, _⟩, _, _, _, _, _, _⟩ := z6 BK460))
          generalize hW_ : ((((((w20.setCell ⟨gb460, 0, none⟩ (.int .i64 ((rd_T40 l0_0 x22_2).f0))).setCell ⟨gb460, 1, none⟩ (.int .i64 ((rd_T40 l0_0 x22_2).f1))).setCell ⟨gb460, 2, none⟩ (.int .i64 ((rd_T40 l0_0 x22_2).f2))).setCell ⟨gb460, 3, none⟩ (.slice A459_3 ((rd_T40 l0_0 x22_2).f3).length c459_3)).setCell ⟨gb460, 4, none⟩ (.slice A459_4 ((rd_T40 l0_0 x22_2).f4).length c459_4)).setCell ⟨gb460, 5, none⟩ (.slice A459_5 ((rd_T40 l0_0 x22_2).f5).length c459_5)) = w23
          replace BK454 := kw_ hW_ BK454
          replace BK460 := kv_ #[.int .i64 ((rd_T40 l0_0 x22_2).f0), .int .i64 ((rd_T40 l0_0 x22_2).f1), .int .i64 ((rd_T40 l0_0 x22_2).f2), .slice A459_3 ((rd_T40 l0_0 x22_2).f3).length c459_3, .slice A459_4 ((rd_T40 l0_0 x22_2).f4).length c459_4, .slice A459_5 ((rd_T40 l0_0 x22_2).f5).length c459_5] hW_ BK460
          replace HB := hw_ hW_ HB
          clear hW_
          replace BK454 := Aside0.mk (blk_drew BK454.out)
          replace BK460 := Aside0.mk (blk_drew BK460.out)
          replace HB := Aside0.mk (below_drew1 HB.out)
          refine s0_ 7 (fun w' => w'.cell? ⟨gb460, 0, none⟩ = some (.int .i64 ((rd_T40 l0_0 x22_2).f0)) ∧ w'.cell? ⟨gb460, 1, none⟩ = some (.int .i64 ((rd_T40 l0_0 x22_2).f1)) ∧ w'.cell? ⟨gb460, 2, none⟩ = some (.int .i64 ((rd_T40 l0_0 x22_2).f2)) ∧ w'.cell? ⟨gb460, 3, none⟩ = some (.slice A459_3 ((rd_T40 l0_0 x22_2).f3).length c459_3) ∧ w'.cell? ⟨gb460, 4, none⟩ = some (.slice A459_4 ((rd_T40 l0_0 x22_2).f4).length c459_4) ∧ w'.cell? ⟨gb460, 5, none⟩ = some (.slice A459_5 ((rd_T40 l0_0 x22_2).f5).length c459_5) ∧ w'.cell? ⟨gb454, 0, none⟩ = some (.slice (some ad459) l0_0.length c0_0) ∧ w'.cell? ⟨gb454, 1, none⟩ = some (.int .i64 a0_1)) oH (fun hHeld => ?_)
          generalize w23.drew = w24 at BK454 BK460 HB hHeld ⊢
          refine p0_ 0 26 ?_
          refine p0_ 3 29 ?_
          refine t0_ 1 27 hHeld ?_
          refine t0_ 2 28 hHeld ?_
          refine t0_ 4 30 hHeld ?_
          refine o0_ 5 31 (fun K hK => ?_)
          refine gr_ 31 Try.func63 (impl_LinksOf.calls k2 _ _ l0_0 a0_1 ((rd_T40 l0_0 x22_2).f0) t461 _ (kC HR0_0) HC0_0.out A18.out) ?_
          rintro e w25 ⟨rfl, hb⟩
          refine ⟨_, rfl, ?_⟩
          replace BK454 := kb_ BK454 hb
          replace BK460 := kb_ BK460 hb
          replace HB := Aside0.mk (below_step oB hb)
          refine hk_ hK 31 oH (fun hHeld => ?_)
          clear hK K
          refine p0_ 6 32 ?_
          refine done_ (by kernel_rfl) ?_
          obtain ⟨⟨_, _, _, _, _, _⟩, _, _, _, _, _, _⟩ := z6 BK460
          try go_wp2
          go_loopg [36] k2 (fun kq v36 w' => ∃ (x36_3 : Int), v36 = .int .i64 x36_3 ∧ Aside0 (impl_TreeOk.l1 kq l0_0 (l0_0.length : Int) x22_2 ((rd_T40 l0_0 x22_2).f4) (((rd_T40 l0_0 x22_2).f4).length : Int) x36_3 l0_0 a0_1 = some r) ∧ Aside0 (kq ≤ k2) ∧ Aside0 (w'.heap[gb454]? = some (.cells #[(.slice (some ad459) l0_0.length c0_0), .int .i64 a0_1] 34 (0, 0))) ∧ Aside0 (w'.heap[gb460]? = some (.cells #[.int .i64 ((rd_T40 l0_0 x22_2).f0), .int .i64 ((rd_T40 l0_0 x22_2).f1), .int .i64 ((rd_T40 l0_0 x22_2).f2), (.slice A459_3 ((rd_T40 l0_0 x22_2).f3).length c459_3), (.slice A459_4 ((rd_T40 l0_0 x22_2).f4).length c459_4), (.slice A459_5 ((rd_T40 l0_0 x22_2).f5).length c459_5)] 40 (0, 0))) ∧ Aside0 (Below w.heap.size w w'))
          case atStart => exact ⟨(0), oS, H', ⟨Nat.le_refl _⟩, ⟨oF BK454⟩, ⟨oF BK460⟩, ⟨oB⟩⟩
          case round =>
           clear H'
           try clear c15b0
           try clear c16b0
           try clear c17b0
           try clear c19
           obtain ⟨x36_3, rfl, HA, HK3, BK454, BK460, HB⟩ := hrel
           cases gk with
           | zero => exact absurd HA.out (by simp [impl_TreeOk.l1])
           | succ k3 =>
            have H := HA.out
            clear HA
            simp only [impl_TreeOk.l1] at H
            replace H := itD H
            rcases H with ⟨c27b0, H⟩ | ⟨c27b0, H⟩
            ·replace H := itD H
             rcases H with ⟨c28b0, H⟩ | ⟨c28b0, H⟩
             ·replace H := itD H
              rcases H with ⟨c29b0, H⟩ | ⟨c29b0, H⟩
              ·replace H := bA H
               obtain ⟨t464, A30, H⟩ := H
               try dsimp only at H
               replace H := itD H
               rcases H with ⟨c31b0, H⟩ | ⟨c31b0, H⟩
               ·obtain rfl := Option.some.inj H
                have p462 : (0 ≤ (x36_3 : Int)) = True := oT
                have q462 : (x36_3 < (((rd_T40 l0_0 x22_2).f4).length : Int)) = True := oT
                obtain ⟨ad462, e462, hx462_0, hx462_1⟩ := at_T82 HR459_4.out x36_3 oa oa
                cases e462
                replace hx462_0 := cB HB hx462_0
                replace hx462_1 := cB HB hx462_1
                go_wp2_with (first | ((with_reducible refine gate_dst (N := 6) rfl ?_); (try (refine gate_guard (by rfl) ?_; dsimp only)); refine bx_ 6 #[.string (⟨#[]⟩ : ByteArray), .int .i64 0] 82 ?_; intro gb463 hg w32 hbox hb; have BK463 := Aside0.mk (hbox); have GW463 := gs_ hg; have NB454_463 := nl_ hg BK454; have NB463_454 := nr_ hg BK454; have NB460_463 := nl_ hg BK460; have NB463_460 := nr_ hg BK460; replace BK454 := kb_ BK454 hb; replace BK460 := kb_ BK460 hb; replace HB := Aside0.mk (below_step oB hb); clear hb hbox hg; have hnb33 := NB463_454.out; have hnc33 := NB454_463.out; have hnb34 := NB463_460.out; have hnc34 := NB460_463.out; obtain ⟨⟨_, _⟩, _, _⟩ := z2 BK463; have hnb36 := NB454_460.out; have hnc36 := NB460_454.out; obtain ⟨⟨_, _⟩, _, _⟩ := z2 BK454) | ((with_reducible refine gate_callee (f := 44) rfl ?_); refine gl_ 43 Try.func44 (impl_placeOf.calls k3 _ _ l0_0 a0_1 ((rd_T82 ((rd_T40 l0_0 x22_2).f4) x36_3).f1) t464 _ ?side1 HC0_0.out A30.out) ?_; (case side1 => exact Kd.C_below HR0_0.out oB); rintro e w38 ⟨rfl, hb⟩; refine ⟨_, rfl, ?_⟩; replace BK454 := kb_ BK454 hb; replace BK460 := kb_ BK460 hb; replace BK463 := kp_ #[.string ((rd_T82 ((rd_T40 l0_0 x22_2).f4) x36_3).f0), .int .i64 ((rd_T82 ((rd_T40 l0_0 x22_2).f4) x36_3).f1)] BK463 hb; replace HB := Aside0.mk (below_step oB hb)))
                go_ret
                exact ⟨oE, oB⟩
               ·have H' := Aside0.mk H
                clear H
                have p462 : (0 ≤ (x36_3 : Int)) = True := oT
                have q462 : (x36_3 < (((rd_T40 l0_0 x22_2).f4).length : Int)) = True := oT
                obtain ⟨ad462, e462, hx462_0, hx462_1⟩ := at_T82 HR459_4.out x36_3 oa oa
                cases e462
                replace hx462_0 := cB HB hx462_0
                replace hx462_1 := cB HB hx462_1
                go_wp2_with (first | ((with_reducible refine gate_dst (N := 6) rfl ?_); (try (refine gate_guard (by rfl) ?_; dsimp only)); refine bx_ 6 #[.string (⟨#[]⟩ : ByteArray), .int .i64 0] 82 ?_; intro gb463 hg w39 hbox hb; have BK463 := Aside0.mk (hbox); have GW463 := gs_ hg; have NB454_463 := nl_ hg BK454; have NB463_454 := nr_ hg BK454; have NB460_463 := nl_ hg BK460; have NB463_460 := nr_ hg BK460; replace BK454 := kb_ BK454 hb; replace BK460 := kb_ BK460 hb; replace HB := Aside0.mk (below_step oB hb); clear hb hbox hg; have hnb40 := NB463_454.out; have hnc40 := NB454_463.out; have hnb41 := NB463_460.out; have hnc41 := NB460_463.out; obtain ⟨⟨_, _⟩, _, _⟩ := z2 BK463; have hnb43 := NB454_460.out; have hnc43 := NB460_454.out; obtain ⟨⟨_, _⟩, _, _⟩ := z2 BK454) | ((with_reducible refine gate_callee (f := 44) rfl ?_); refine gl_ 43 Try.func44 (impl_placeOf.calls k3 _ _ l0_0 a0_1 ((rd_T82 ((rd_T40 l0_0 x22_2).f4) x36_3).f1) t464 _ ?side1 HC0_0.out A30.out) ?_; (case side1 => exact Kd.C_below HR0_0.out oB); rintro e w45 ⟨rfl, hb⟩; refine ⟨_, rfl, ?_⟩; replace BK454 := kb_ BK454 hb; replace BK460 := kb_ BK460 hb; replace BK463 := kp_ #[.string ((rd_T82 ((rd_T40 l0_0 x22_2).f4) x36_3).f0), .int .i64 ((rd_T82 ((rd_T40 l0_0 x22_2).f4) x36_3).f1)] BK463 hb; replace HB := Aside0.mk (below_step oB hb)))
                go_roundg k3
                case measure => have := HJ1.out; have := HK2.out; have := HK3.out; omega
                case rel => exact ⟨(wrap64 (x36_3 + 1)), oS, H', ⟨by have := HJ1.out; have := HK2.out; have := HK3.out; omega⟩, ⟨oF BK454⟩, ⟨oF BK460⟩, ⟨oB⟩⟩
              ·cases H
             ·cases H
            ·have H' := Aside0.mk H
             clear H
             go_wp2
             go_roundg k3
             case measure => have := HJ1.out; have := HK2.out; have := HK3.out; omega
             case rel => exact ⟨(wrap64 (x22_2 + 1)), oS, H', ⟨by have := HJ1.out; have := HK2.out; have := HK3.out; omega⟩, ⟨oF BK454⟩, ⟨oB⟩⟩
         ·rw [if_neg c19] at H
          have c19b0 : (((rd_T40 l0_0 x22_2).f2) == t461) = false := beq_eq_false_iff_ne.mpr c19
          have c19b1 : (((rd_T40 l0_0 x22_2).f2) != t461) = true := bne_iff_ne.mpr c19
          obtain rfl := Option.some.inj H
          have p459 : (0 ≤ (x22_2 : Int)) = True := oT
          have q459 : (x22_2 < (l0_0.length : Int)) = True := oT
          obtain ⟨ad459, A459_3, c459_3, A459_4, c459_4, A459_5, c459_5, e459, hx459_0, hx459_1, hx459_2, hx459_3, hx459_4, hx459_5, hl459_3, hi459_3, hl459_4, hi459_4, hl459_5, hi459_5⟩ := at_T40 HR0_0.out x22_2 oa oa
          cases e459
          replace hx459_0 := cB HB hx459_0
          replace hx459_1 := cB HB hx459_1
          replace hx459_2 := cB HB hx459_2
          replace hx459_3 := cB HB hx459_3
          replace hx459_4 := cB HB hx459_4
          replace hx459_5 := cB HB hx459_5
          have HR459_3 := Aside0.mk hi459_3
          have HC459_3 := Aside0.mk hl459_3
          clear hi459_3 hl459_3
          have HR459_4 := Aside0.mk hi459_4
          have HC459_4 := Aside0.mk hl459_4
          clear hi459_4 hl459_4
          have HR459_5 := Aside0.mk hi459_5
          have HC459_5 := Aside0.mk hl459_5
          clear hi459_5 hl459_5
          try go_wp2_with (first | ((with_reducible refine gate_dst (N := 4) rfl ?_); (try (refine gate_guard (by rfl) ?_; dsimp only)); refine bx_ 4 #[.int .i64 0, .int .i64 0, .int .i64 0, .slice none 0 0, .slice none 0 0, .slice none 0 0] 40 ?_; intro gb460 hg w46 hbox hb; have BK460 := Aside0.mk (hbox); have GW460 := gs_ hg; have NB454_460 := nl_ hg BK454; have NB460_454 := nr_ hg BK454; replace BK454 := kb_ BK454 hb; replace HB := Aside0.mk (below_step oB hb); clear hb hbox hg; have hnb47 := NB460_454.out; have hnc47 := NB454_460.out; obtain ⟨⟨_, _, _, _, _, _⟩, _, _, _, _, _, _⟩ := z6 BK460))
          generalize hW_ : ((((((w46.setCell ⟨gb460, 0, none⟩ (.int .i64 ((rd_T40 l0_0 x22_2).f0))).setCell ⟨gb460, 1, none⟩ (.int .i64 ((rd_T40 l0_0 x22_2).f1))).setCell ⟨gb460, 2, none⟩ (.int .i64 ((rd_T40 l0_0 x22_2).f2))).setCell ⟨gb460, 3, none⟩ (.slice A459_3 ((rd_T40 l0_0 x22_2).f3).length c459_3)).setCell ⟨gb460, 4, none⟩ (.slice A459_4 ((rd_T40 l0_0 x22_2).f4).length c459_4)).setCell ⟨gb460, 5, none⟩ (.slice A459_5 ((rd_T40 l0_0 x22_2).f5).length c459_5)) = w49
          replace BK454 := kw_ hW_ BK454
          replace BK460 := kv_ #[.int .i64 ((rd_T40 l0_0 x22_2).f0), .int .i64 ((rd_T40 l0_0 x22_2).f1), .int .i64 ((rd_T40 l0_0 x22_2).f2), .slice A459_3 ((rd_T40 l0_0 x22_2).f3).length c459_3, .slice A459_4 ((rd_T40 l0_0 x22_2).f4).length c459_4, .slice A459_5 ((rd_T40 l0_0 x22_2).f5).length c459_5] hW_ BK460
          replace HB := hw_ hW_ HB
          clear hW_
          replace BK454 := Aside0.mk (blk_drew BK454.out)
          replace BK460 := Aside0.mk (blk_drew BK460.out)
          replace HB := Aside0.mk (below_drew1 HB.out)
          refine s0_ 7 (fun w' => w'.cell? ⟨gb460, 0, none⟩ = some (.int .i64 ((rd_T40 l0_0 x22_2).f0)) ∧ w'.cell? ⟨gb460, 1, none⟩ = some (.int .i64 ((rd_T40 l0_0 x22_2).f1)) ∧ w'.cell? ⟨gb460, 2, none⟩ = some (.int .i64 ((rd_T40 l0_0 x22_2).f2)) ∧ w'.cell? ⟨gb460, 3, none⟩ = some (.slice A459_3 ((rd_T40 l0_0 x22_2).f3).length c459_3) ∧ w'.cell? ⟨gb460, 4, none⟩ = some (.slice A459_4 ((rd_T40 l0_0 x22_2).f4).length c459_4) ∧ w'.cell? ⟨gb460, 5, none⟩ = some (.slice A459_5 ((rd_T40 l0_0 x22_2).f5).length c459_5) ∧ w'.cell? ⟨gb454, 0, none⟩ = some (.slice (some ad459) l0_0.length c0_0) ∧ w'.cell? ⟨gb454, 1, none⟩ = some (.int .i64 a0_1)) oH (fun hHeld => ?_)
          generalize w49.drew = w50 at BK454 BK460 HB hHeld ⊢
          refine p0_ 0 26 ?_
          refine p0_ 3 29 ?_
          refine t0_ 1 27 hHeld ?_
          refine t0_ 2 28 hHeld ?_
          refine t0_ 4 30 hHeld ?_
          refine o0_ 5 31 (fun K hK => ?_)
          refine gr_ 31 Try.func63 (impl_LinksOf.calls k2 _ _ l0_0 a0_1 ((rd_T40 l0_0 x22_2).f0) t461 _ (kC HR0_0) HC0_0.out A18.out) ?_
          rintro e w51 ⟨rfl, hb⟩
          refine ⟨_, rfl, ?_⟩
          replace BK454 := kb_ BK454 hb
          replace BK460 := kb_ BK460 hb
          replace HB := Aside0.mk (below_step oB hb)
          refine hk_ hK 31 oH (fun hHeld => ?_)
          clear hK K
          refine p0_ 6 32 ?_
          refine done_ (by kernel_rfl) ?_
          try go_wp2
          go_ret
          exact ⟨oE, oB⟩
        ·cases H
       ·cases H
      ·obtain rfl := Option.some.inj H
       go_wp2
       go_ret
       exact ⟨oE, oB⟩

/-! ### laws_FnExactTreeOk: function 5 -/
mutual
def laws_FnExactTreeOk.j0 : Nat → List (S29) → Int → Option (Bool)
 | 0, _, _ => none
 | k + 1, x466000, x466001 => (laws_toTab.f k x466000 x466001).bind fun bt467 => ((spec_TreeOk.f k bt467.1 bt467.2).bind fun t471 => ((laws_toTab.f k x466000 x466001).bind fun bt472 => ((impl_TreeOk.f k bt472.1 bt472.2).bind fun t477 => (if (t477 != t471) = true then (some false) else (laws_FnExactTreeOk.j1 k x466000 x466001 bt472.1 bt472.2)))))
def laws_FnExactTreeOk.j1 : Nat → List (S29) → Int → List (S40) → Int → Option (Bool)
 | 0, _, _, _, _ => none
 | k + 1, x466000, x466001, x477000, x477001 => (laws_toTab.f k x466000 x466001).bind fun bt478 => ((laws_eqTab.f k x477000 x477001 bt478.1 bt478.2).bind fun t482 => (if t482 = true then (some true) else (some false)))
end
def laws_FnExactTreeOk.f (k : Nat) (l0_0 : List (S29)) (a0_1 : Int) : Option (Bool) := (laws_szTab.f k l0_0 a0_1 1048576).bind fun t466 => (if t466 < 0 then (some true) else (laws_FnExactTreeOk.j0 k l0_0 a0_1))
set_option maxHeartbeats 8000000 in
set_option maxRecDepth 100000 in
theorem laws_FnExactTreeOk.calls (k : Nat) (A0_0 : Option Addr) (c0_0 : Nat) (l0_0 : List (S29)) (a0_1 : Int) (r : Bool) (w : World) (hr0_0 : Kd.C k29 w A0_0 l0_0.length l0_0) (hc0_0 : l0_0.length ≤ c0_0) (h : laws_FnExactTreeOk.f k l0_0 a0_1 = some r) :
  Calls Try.prog 5 #[.agg #[.slice A0_0 l0_0.length c0_0, .int .i64 a0_1]] w fun e w' => e = .returned (.bool r) ∧ Below w.heap.size w w' := by
 have hu24 := Try.underlying24
 have hu34 := Try.underlying34
 have HR0_0 := Aside0.mk hr0_0
 have HC0_0 := Aside0.mk hc0_0
 clear hr0_0 hc0_0
 have HB := Aside0.mk (Below.refl w.heap.size w)
 unfold laws_FnExactTreeOk.f at h
 have H := h
 clear h
 replace H := bA H
 obtain ⟨t466, A2, H⟩ := H
 try dsimp only at H
 have HC3 := Aside0.mk H
 clear H
 go_enter Try.func5, Try.ntmps5
 go_upto_if 11 with (first | ((with_reducible refine gate_dst (N := 1) rfl ?_); refine bx_ 1 #[.slice A0_0 l0_0.length c0_0, .int .i64 a0_1] 24 ?_; intro gb465 hg w4 hbox hb; have BK465 := Aside0.mk (hbox); have GW465 := gs_ hg; replace HB := Aside0.mk (below_step oB hb); clear hb hbox hg; obtain ⟨⟨_, _⟩, _, _⟩ := z2 BK465) | ((with_reducible refine gate_callee (f := 7) rfl ?_); refine gl_ 9 Try.func7 (laws_szTab.calls k _ _ l0_0 a0_1 1048576 t466 _ (kC HR0_0) HC0_0.out A2.out) ?_; rintro e w6 ⟨rfl, hb⟩; refine ⟨_, rfl, ?_⟩; replace BK465 := kb_ BK465 hb; replace HB := Aside0.mk (below_step oB hb)))
 (try simp only [Act.put, List.setIfInBounds_toArray, List.set_cons_zero, List.set_cons_succ])
 go_cut [] (fun wc => ∃ (kq : Nat), Aside0 (laws_FnExactTreeOk.j0 kq l0_0 a0_1 = some r) ∧ Aside0 (kq ≤ k) ∧ Aside0 (wc.heap[gb465]? = some (.cells #[(.slice A0_0 l0_0.length c0_0), .int .i64 a0_1] 24 (0, 0))) ∧ Aside0 (Below w.heap.size w wc))
 case first =>
  have H := HC3.out
  clear HC3
  replace H := itD H
  rcases H with ⟨c7b0, H⟩ | ⟨c7b0, H⟩
  ·(first | rw [c7b0] | rw [c7b2] | (simp only [i64_w, i32_w]; rw [c7b0]) | skip)
   obtain rfl := Option.some.inj H
   go_wp2
   go_ret
   exact ⟨oE, oB⟩
  ·(first | rw [c7b0] | rw [c7b2] | (simp only [i64_w, i32_w]; rw [c7b0]) | skip)
   have H' := Aside0.mk H
   clear H
   go_wp2
   go_meet
   case rel => exact ⟨_, H', ⟨by first | omega | exact Nat.le_refl _⟩, ⟨oF BK465⟩, ⟨oB⟩⟩
 case rest =>
  clear HC3
  obtain ⟨kq, HA, HJ2, BK465, HB⟩ := hcut
  cases kq with
  | zero => exact absurd HA.out (by simp [laws_FnExactTreeOk.j0])
  | succ kj2 =>
   have H := HA.out
   clear HA
   simp only [laws_FnExactTreeOk.j0] at H
   replace H := bA H
   obtain ⟨⟨t467, t470⟩, A8, H⟩ := H
   try dsimp only at H
   replace H := bA H
   obtain ⟨t471, A9, H⟩ := H
   try dsimp only at H
   replace H := bA H
   obtain ⟨⟨t472, t475⟩, A10, H⟩ := H
   try dsimp only at H
   replace H := bA H
   obtain ⟨t477, A11, H⟩ := H
   try dsimp only at H
   have HC12 := Aside0.mk H
   clear H
   obtain ⟨⟨_, _⟩, _, _⟩ := z2 BK465
   go_upto_if 21 with (first | ((with_reducible refine gate_callee (f := 10) rfl ?_); refine gl_ 13 Try.func10 (laws_toTab.calls kj2 _ _ l0_0 a0_1 t467 t470 _ (kC HR0_0) HC0_0.out A8.out) ?_; rintro e w14 ⟨v468, rfl, ho0, hb⟩; refine ⟨_, rfl, ?_⟩; have HO469 := Aside0.mk (Kd.S_lower ho0 (below_size oB)); replace BK465 := kb_ BK465 hb; replace HB := Aside0.mk (below_step oB hb); obtain ⟨Ao15, co15, eo15⟩ := Kd.S_slice HO469.out; subst eo15) | ((with_reducible refine gate_callee (f := 23) rfl ?_); refine gl_ 14 Try.func23 (spec_TreeOk.calls kj2 _ _ t467 t470 t471 _ ?side1 ?side2 A9.out) ?_; (case side1 => repeat (first | exact (Kd.S_reads' HO469.out).2.2 | (with_reducible refine Kd.C_alloc ?_ _) | (with_reducible refine Kd.C_drewN ?_ _) | (with_reducible refine Kd.C_drew ?_))); (case side2 => exact (Kd.S_reads' HO469.out).2.1); rintro e w16 ⟨rfl, hb⟩; refine ⟨_, rfl, ?_⟩; replace HO469 := Aside0.mk (Kd.S_below (by (with_reducible repeat (first | apply Kd.S_alloc | apply Kd.S_drewN | apply Kd.S_drew)); exact HO469.out) hb); replace BK465 := kb_ BK465 hb; replace HB := Aside0.mk (below_step oB hb); obtain ⟨⟨_, _⟩, _, _⟩ := z2 BK465) | ((with_reducible refine gate_callee (f := 10) rfl ?_); refine gl_ 16 Try.func10 (laws_toTab.calls kj2 _ _ l0_0 a0_1 t472 t475 _ (kC HR0_0) HC0_0.out A10.out) ?_; rintro e w18 ⟨v473, rfl, ho0, hb⟩; refine ⟨_, rfl, ?_⟩; have HO474 := Aside0.mk (Kd.S_lower (Kd.S_new' ho0 (Kd.S_lt (by (with_reducible repeat (first | apply Kd.S_alloc | apply Kd.S_drewN | apply Kd.S_drew)); exact HO469.out))) (below_size oB)); replace HO469 := Aside0.mk (Kd.S_elder' (by (with_reducible repeat (first | apply Kd.S_alloc | apply Kd.S_drewN | apply Kd.S_drew)); exact HO469.out) (Kd.S_base ho0) hb); replace BK465 := kb_ BK465 hb; replace HB := Aside0.mk (below_step oB hb)) | ((with_reducible refine gate_dst (N := 5) rfl ?_); refine bx_ 5 #[.slice none 0 0, .int .i64 0] 34 ?_; intro gb476 hg w19 hbox hb; have BK476 := Aside0.mk (hbox); have GW476 := gs_ hg; have NB465_476 := nl_ hg BK465; have NB476_465 := nr_ hg BK465; replace HO469 := Aside0.mk (Kd.S_below (by (with_reducible repeat (first | apply Kd.S_alloc | apply Kd.S_drewN | apply Kd.S_drew)); exact HO469.out) hb); replace HO474 := Aside0.mk (Kd.S_below (by (with_reducible repeat (first | apply Kd.S_alloc | apply Kd.S_drewN | apply Kd.S_drew)); exact HO474.out) hb); replace BK465 := kb_ BK465 hb; replace HB := Aside0.mk (below_step oB hb); clear hb hbox hg; obtain ⟨Ao20, co20, eo20⟩ := Kd.S_slice HO474.out; subst eo20; have hnb21 := NB476_465.out; have hnc21 := NB465_476.out; obtain ⟨⟨_, _⟩, _, _⟩ := z2 BK476) | ((with_reducible refine gate_callee (f := 24) rfl ?_); refine gl_ 18 Try.func24 (impl_TreeOk.calls kj2 _ _ t472 t475 t477 _ ?side1 ?side2 A11.out) ?_; (case side1 => refine (Kd.S_reads' (e := 40) (base := w.heap.size) (ok := fun k_ => (True ∧ some k_ ≠ (.slice Ao15 t467.length co15 : Value).ownBlock)) (n := t472.length) (c := co20) ?_).2.2; exact (by (with_reducible repeat (first | apply Kd.S_alloc | apply Kd.S_drewN | apply Kd.S_drew)); exact (Kd.S_mono (Kd.S_far (p := ⟨gb476, 1, none⟩) (Kd.S_far (p := ⟨gb476, 0, none⟩) (Kd.S_types HO474.out BK476.out (by decide)) (fun _ hk => hk.2) (.slice Ao20 t472.length co20)) (fun _ hk => hk.2) (.int .i64 t475)) (fun _ h_ => h_.1)))); (case side2 => exact (Kd.S_reads' HO474.out).2.1); rintro e w23 ⟨rfl, hb⟩; refine ⟨_, rfl, ?_⟩; replace HO469 := Aside0.mk (Kd.S_below (by (with_reducible repeat (first | apply Kd.S_alloc | apply Kd.S_drewN | apply Kd.S_drew)); exact (Kd.S_mono (Kd.S_far (p := ⟨gb476, 1, none⟩) (Kd.S_far (p := ⟨gb476, 0, none⟩) (Kd.S_types HO469.out BK476.out (by decide)) (fun _ hk => hk.2) (.slice Ao20 t472.length co20)) (fun _ hk => hk.2) (.int .i64 t475)) (fun _ h_ => h_.1))) hb); replace HO474 := Aside0.mk (Kd.S_below (by (with_reducible repeat (first | apply Kd.S_alloc | apply Kd.S_drewN | apply Kd.S_drew)); exact (Kd.S_mono (Kd.S_far (p := ⟨gb476, 1, none⟩) (Kd.S_far (p := ⟨gb476, 0, none⟩) (Kd.S_types HO474.out BK476.out (by decide)) (fun _ hk => hk.2) (.slice Ao20 t472.length co20)) (fun _ hk => hk.2) (.int .i64 t475)) (fun _ h_ => h_.1))) hb); replace BK465 := kb_ BK465 hb; replace BK476 := kp_ #[.slice Ao20 t472.length co20, .int .i64 t475] BK476 hb; replace HB := Aside0.mk (below_step oB hb); (try clear hk)))
   (try simp only [Act.put, List.setIfInBounds_toArray, List.set_cons_zero, List.set_cons_succ])
   go_cut [] (fun wc => ∃ (kq : Nat), Aside0 (laws_FnExactTreeOk.j1 kq l0_0 a0_1 t472 t475 = some r) ∧ Aside0 (kq ≤ kj2) ∧ Aside0 (Kd.S k40 40 wc w.heap.size (fun _ => True) (.slice Ao20 t472.length co20) t472) ∧ Aside0 (wc.heap[gb465]? = some (.cells #[(.slice A0_0 l0_0.length c0_0), .int .i64 a0_1] 24 (0, 0))) ∧ Aside0 (wc.heap[gb476]? = some (.cells #[(.slice Ao20 t472.length co20), .int .i64 t475] 34 (0, 0))) ∧ Aside0 (Below w.heap.size w wc))
   case first =>
    have H := HC12.out
    clear HC12
    by_cases c24 : (t477 != t471) = true
    ·rw [if_pos c24] at H
     have c24b0 : (t477 != t471) = true := c24
     (try (have c24b1 : decide (t477 = t471) = false := by simpa using c24))
     (try (have c24b2 : (t477 == t471) = false := by simpa using c24))
     (try (have c24b3 : ¬ (t477 = t471) := by simpa using c24))
     clear c24
     (first | rw [c24b0] | rw [c24b2] | (simp only [i64_w, i32_w]; rw [c24b0]) | skip)
     obtain rfl := Option.some.inj H
     go_wp2
     go_ret
     exact ⟨oE, oB⟩
    ·rw [if_neg c24] at H
     have c24b0 : (t477 != t471) = false := by simpa using c24
     (try (have c24b1 : decide (t477 = t471) = true := by simpa using c24))
     (try (have c24b2 : (t477 == t471) = true := by simpa using c24))
     clear c24
     (first | rw [c24b0] | rw [c24b2] | (simp only [i64_w, i32_w]; rw [c24b0]) | skip)
     have H' := Aside0.mk H
     clear H
     go_wp2
     go_meet
     case rel => exact ⟨_, H', ⟨by have := HJ2.out; first | omega | exact Nat.le_refl _⟩, ⟨by (with_reducible repeat (first | apply Kd.S_alloc | apply Kd.S_drewN | apply Kd.S_drew)); exact Kd.S_mono HO474.out (fun _ hk => trivial)⟩, ⟨oF BK465⟩, ⟨oF BK476⟩, ⟨oB⟩⟩
   case rest =>
    clear HC12
    obtain ⟨kq, HA, HJ11, HO_477000, BK465, BK476, HB⟩ := hcut
    cases kq with
    | zero => exact absurd HA.out (by simp [laws_FnExactTreeOk.j1])
    | succ kj11 =>
     have H := HA.out
     clear HA
     simp only [laws_FnExactTreeOk.j1] at H
     replace H := bA H
     obtain ⟨⟨t478, t481⟩, A25, H⟩ := H
     try dsimp only at H
     replace H := bA H
     obtain ⟨t482, A26, H⟩ := H
     try dsimp only at H
     replace H := itB H
     rcases H with ⟨rfl, H⟩ | ⟨rfl, H⟩
     ·obtain rfl := Option.some.inj H
      try go_wp2
      replace HO_477000 := Aside0.mk (Kd.S_drew HO_477000.out)
      replace BK465 := Aside0.mk (blk_drew BK465.out)
      replace BK476 := Aside0.mk (blk_drew BK476.out)
      replace HB := Aside0.mk (below_drew1 HB.out)
      refine s0_ 5 (fun w' => w'.cell? ⟨gb476, 0, none⟩ = some (.slice Ao20 t472.length co20) ∧ w'.cell? ⟨gb476, 1, none⟩ = some (.int .i64 t475) ∧ w'.cell? ⟨gb465, 0, none⟩ = some (.slice A0_0 l0_0.length c0_0) ∧ w'.cell? ⟨gb465, 1, none⟩ = some (.int .i64 a0_1)) oH (fun hHeld => ?_)
      generalize wc.drew = w28 at HO_477000 BK465 BK476 HB hHeld ⊢
      refine t0_ 0 22 hHeld ?_
      refine t0_ 1 23 hHeld ?_
      refine o0_ 2 24 (fun K hK => ?_)
      refine gr_ 24 Try.func10 (laws_toTab.calls kj11 _ _ l0_0 a0_1 t478 t481 _ (kC HR0_0) HC0_0.out A25.out) ?_
      rintro e w29 ⟨v479, rfl, ho0, hb⟩
      refine ⟨_, rfl, ?_⟩
      have HO480 := Aside0.mk (Kd.S_lower (Kd.S_new' ho0 (Kd.S_lt (by (with_reducible repeat (first | apply Kd.S_alloc | apply Kd.S_drewN | apply Kd.S_drew)); exact HO_477000.out))) (below_size oB))
      replace HO_477000 := Aside0.mk (Kd.S_elder' (by (with_reducible repeat (first | apply Kd.S_alloc | apply Kd.S_drewN | apply Kd.S_drew)); exact HO_477000.out) (Kd.S_base ho0) hb)
      replace BK465 := kb_ BK465 hb
      replace BK476 := kb_ BK476 hb
      replace HB := Aside0.mk (below_step oB hb)
      obtain ⟨Ao30, co30, eo30⟩ := Kd.S_slice HO480.out
      (first | subst eo30 | (injection eo30 with f1_ f2_ f3_; have f4_ := f1_.symm; have f5_ := f3_.symm; clear f1_ f2_ f3_; subst f4_; subst f5_))
      refine hk_ hK 24 oH (fun hHeld => ?_)
      clear hK K
      refine o0_ 3 25 (fun K hK => ?_)
      refine gr_ 25 Try.func13 (laws_eqTab.calls kj11 _ _ t472 t475 _ _ t478 t481 true _ ?side1 ?side2 ?side3 ?side4 A26.out) ?_
      (case side1 => repeat (first | exact (Kd.S_reads' HO_477000.out).2.2 | (with_reducible refine Kd.C_alloc ?_ _) | (with_reducible refine Kd.C_drewN ?_ _) | (with_reducible refine Kd.C_drew ?_)))
      (case side2 => exact (Kd.S_reads' HO_477000.out).2.1)
      (case side3 => repeat (first | exact (Kd.S_reads' HO480.out).2.2 | (with_reducible refine Kd.C_alloc ?_ _) | (with_reducible refine Kd.C_drewN ?_ _) | (with_reducible refine Kd.C_drew ?_)))
      (case side4 => exact (Kd.S_reads' HO480.out).2.1)
      rintro e w31 ⟨rfl, hb⟩
      refine ⟨_, rfl, ?_⟩
      replace HO_477000 := Aside0.mk (Kd.S_below (by (with_reducible repeat (first | apply Kd.S_alloc | apply Kd.S_drewN | apply Kd.S_drew)); exact HO_477000.out) hb)
      replace HO480 := Aside0.mk (Kd.S_below (by (with_reducible repeat (first | apply Kd.S_alloc | apply Kd.S_drewN | apply Kd.S_drew)); exact HO480.out) hb)
      replace BK465 := kb_ BK465 hb
      replace BK476 := kb_ BK476 hb
      replace HB := Aside0.mk (below_step oB hb)
      refine hk_ hK 25 oH (fun hHeld => ?_)
      clear hK K
      refine p0_ 4 26 ?_
      refine done_ (by kernel_rfl) ?_
      try go_wp2
      go_ret
      exact ⟨oE, oB⟩
     ·obtain rfl := Option.some.inj H
      try go_wp2
      replace HO_477000 := Aside0.mk (Kd.S_drew HO_477000.out)
      replace BK465 := Aside0.mk (blk_drew BK465.out)
      replace BK476 := Aside0.mk (blk_drew BK476.out)
      replace HB := Aside0.mk (below_drew1 HB.out)
      refine s0_ 5 (fun w' => w'.cell? ⟨gb476, 0, none⟩ = some (.slice Ao20 t472.length co20) ∧ w'.cell? ⟨gb476, 1, none⟩ = some (.int .i64 t475) ∧ w'.cell? ⟨gb465, 0, none⟩ = some (.slice A0_0 l0_0.length c0_0) ∧ w'.cell? ⟨gb465, 1, none⟩ = some (.int .i64 a0_1)) oH (fun hHeld => ?_)
      generalize wc.drew = w32 at HO_477000 BK465 BK476 HB hHeld ⊢
      refine t0_ 0 22 hHeld ?_
      refine t0_ 1 23 hHeld ?_
      refine o0_ 2 24 (fun K hK => ?_)
      refine gr_ 24 Try.func10 (laws_toTab.calls kj11 _ _ l0_0 a0_1 t478 t481 _ (kC HR0_0) HC0_0.out A25.out) ?_
      rintro e w33 ⟨v479, rfl, ho0, hb⟩
      refine ⟨_, rfl, ?_⟩
      have HO480 := Aside0.mk (Kd.S_lower (Kd.S_new' ho0 (Kd.S_lt (by (with_reducible repeat (first | apply Kd.S_alloc | apply Kd.S_drewN | apply Kd.S_drew)); exact HO_477000.out))) (below_size oB))
      replace HO_477000 := Aside0.mk (Kd.S_elder' (by (with_reducible repeat (first | apply Kd.S_alloc | apply Kd.S_drewN | apply Kd.S_drew)); exact HO_477000.out) (Kd.S_base ho0) hb)
      replace BK465 := kb_ BK465 hb
      replace BK476 := kb_ BK476 hb
      replace HB := Aside0.mk (below_step oB hb)
      obtain ⟨Ao34, co34, eo34⟩ := Kd.S_slice HO480.out
      (first | subst eo34 | (injection eo34 with f1_ f2_ f3_; have f4_ := f1_.symm; have f5_ := f3_.symm; clear f1_ f2_ f3_; subst f4_; subst f5_))
      refine hk_ hK 24 oH (fun hHeld => ?_)
      clear hK K
      refine o0_ 3 25 (fun K hK => ?_)
      refine gr_ 25 Try.func13 (laws_eqTab.calls kj11 _ _ t472 t475 _ _ t478 t481 false _ ?side1 ?side2 ?side3 ?side4 A26.out) ?_
      (case side1 => repeat (first | exact (Kd.S_reads' HO_477000.out).2.2 | (with_reducible refine Kd.C_alloc ?_ _) | (with_reducible refine Kd.C_drewN ?_ _) | (with_reducible refine Kd.C_drew ?_)))
      (case side2 => exact (Kd.S_reads' HO_477000.out).2.1)
      (case side3 => repeat (first | exact (Kd.S_reads' HO480.out).2.2 | (with_reducible refine Kd.C_alloc ?_ _) | (with_reducible refine Kd.C_drewN ?_ _) | (with_reducible refine Kd.C_drew ?_)))
      (case side4 => exact (Kd.S_reads' HO480.out).2.1)
      rintro e w35 ⟨rfl, hb⟩
      refine ⟨_, rfl, ?_⟩
      replace HO_477000 := Aside0.mk (Kd.S_below (by (with_reducible repeat (first | apply Kd.S_alloc | apply Kd.S_drewN | apply Kd.S_drew)); exact HO_477000.out) hb)
      replace HO480 := Aside0.mk (Kd.S_below (by (with_reducible repeat (first | apply Kd.S_alloc | apply Kd.S_drewN | apply Kd.S_drew)); exact HO480.out) hb)
      replace BK465 := kb_ BK465 hb
      replace BK476 := kb_ BK476 hb
      replace HB := Aside0.mk (below_step oB hb)
      refine hk_ hK 25 oH (fun hHeld => ?_)
      clear hK K
      refine p0_ 4 26 ?_
      refine done_ (by kernel_rfl) ?_
      try go_wp2
      go_ret
      exact ⟨oE, oB⟩

end Go.Proofs.Ytmndnegpclaidaa.P
