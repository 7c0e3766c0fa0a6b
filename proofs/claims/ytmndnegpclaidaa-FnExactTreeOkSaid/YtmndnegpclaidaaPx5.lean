-- By this session's own program (wip/myprint.py) out of the translation; Lean checks it.
import Derived.Test.YtmndnegpclaidaaPx0
import Derived.Test.YtmndnegpclaidaaPx2
import Derived.Test.YtmndnegpclaidaaPx3
import Derived.Test.YtmndnegpclaidaaPx4
namespace Go.Proofs.Ytmndnegpclaidaa.P
open Go.RowKit Go.Proofs.YtmndnegpclaidaaW.PrintWords Go.Proofs.YtmndnegpclaidaaW.PrintLast Go.Proofs.YtmndnegpclaidaaW.PrintMore
attribute [local go_sem] max2_int min2_int max_two min_two max_three min_three max_four min_four   -- for this text's walks alone
set_option linter.unusedVariables false
set_option linter.unusedSimpArgs false

/-! ### spec_TreeOk: function 23 -/
mutual
def spec_TreeOk.j0 : Nat → Bool → List (S40) → Int → Option (Bool)
 | 0, _, _, _ => none
 | k + 1, x17, x327000, x327001 => if x17 = true then (some false) else (spec_TreeOk.l0 k 0 x327000 x327001)
def spec_TreeOk.l0 : Nat → Int → List (S40) → Int → Option (Bool)
 | 0, _, _, _ => none
 | k + 1, x3, x327000, x327001 => if x3 < (x327000.length : Int) then (if 0 ≤ x3 then ((spec_LinksOf.f k x327000 x327001 ((rd_T40 x327000 x3).f0)).bind fun t333 => (if t333 = ((rd_T40 x327000 x3).f2) then (spec_TreeOk.l1 k x3 0 x327000 x327001 ((rd_T40 x327000 x3).f0) ((rd_T40 x327000 x3).f1) ((rd_T40 x327000 x3).f2) ((rd_T40 x327000 x3).f3) ((rd_T40 x327000 x3).f4) ((rd_T40 x327000 x3).f5)) else (some false))) else (none)) else (some true)
def spec_TreeOk.l1 : Nat → Int → Int → List (S40) → Int → Int → Int → Int → List Int → List (S82) → List (S90) → Option (Bool)
 | 0, _, _, _, _, _, _, _, _, _, _ => none
 | k + 1, x3, x5, x327000, x327001, x333000, x333001, x333002, x333003, x333004, x333005 => if x5 < (x333004.length : Int) then (if 0 ≤ x5 then ((spec_l4At.f k x327000 x327001 ((rd_T82 x333004 x5).f1)).bind fun t335 => (if t335 < 0 then (some false) else (spec_TreeOk.l1 k x3 (wrap64 (x5 + 1)) x327000 x327001 x333000 x333001 x333002 x333003 x333004 x333005))) else (none)) else (spec_TreeOk.l0 k (wrap64 (x3 + 1)) x327000 x327001)
end
def spec_TreeOk.f (k : Nat) (l0_0 : List (S40)) (a0_1 : Int) : Option (Bool) := (spec_TabOk.f k l0_0 a0_1).bind fun t327 => (if t327 = true then ((spec_Reached.f k l0_0 a0_1).bind fun t328 => (spec_TreeOk.j0 k ((t328.length : Int) != (l0_0.length : Int)) l0_0 a0_1)) else (spec_TreeOk.j0 k true l0_0 a0_1))
def spec_TreeOk.T1 : Bool × List (List Nat × List Nat) := (true, [([], []), ([0], [0]), ([1], [1]), ([2, 1], [2]), ([3], [3]), ([4, 3, 3], [3, 4]), ([5, 3], [3, 5]), ([3], [3]), ([7, 3], [3, 7]), ([8, 3], [3, 8]), ([6, 9, 3], [3, 6, 9]), ([3, 10], [3, 10])])
def spec_TreeOk.B1 : List Nat := [0, 1, 3, 7, 15, 31, 63, 15, 143, 399, 1023, 2047]
theorem spec_TreeOk.tab1 : rtab .any (opsOf Try.f23 1) = spec_TreeOk.T1 := by kernel_rfl
theorem spec_TreeOk.bits1 : waitsOk spec_TreeOk.T1.2 spec_TreeOk.B1 = true := by kernel_rfl
def spec_TreeOk.T12 : Bool × List (List Nat × List Nat) := (true, [([], []), ([], []), ([1], [1]), ([], []), ([2, 3], [2, 3]), ([4], [4]), ([5], [5]), ([0, 6], [0, 6]), ([7], [7])])
def spec_TreeOk.B12 : List Nat := [0, 0, 2, 0, 14, 30, 62, 127, 255]
theorem spec_TreeOk.tab12 : rtab .any (opsOf Try.f23 12) = spec_TreeOk.T12 := by kernel_rfl
theorem spec_TreeOk.bits12 : waitsOk spec_TreeOk.T12.2 spec_TreeOk.B12 = true := by kernel_rfl
set_option maxHeartbeats 8000000 in
set_option maxRecDepth 100000 in
theorem spec_TreeOk.calls (k : Nat) (A0_0 : Option Addr) (c0_0 : Nat) (l0_0 : List (S40)) (a0_1 : Int) (r : Bool) (w : World) (hr0_0 : Kd.C k40 w A0_0 l0_0.length l0_0) (hc0_0 : l0_0.length ≤ c0_0) (h : spec_TreeOk.f k l0_0 a0_1 = some r) :
  Calls Try.prog 23 #[.agg #[.slice A0_0 l0_0.length c0_0, .int .i64 a0_1]] w fun e w' => e = .returned (.bool r) ∧ Below w.heap.size w w' := by
 have hu34 := Try.underlying34
 have hu40 := Try.underlying40
 have HR0_0 := Aside0.mk hr0_0
 have HC0_0 := Aside0.mk hc0_0
 clear hr0_0 hc0_0
 have HB := Aside0.mk (Below.refl w.heap.size w)
 unfold spec_TreeOk.f at h
 have H := h
 clear h
 have HC2 := Aside0.mk H
 clear H
 go_enter Try.func23, Try.ntmps23
 go_upto_region 1 with (first | ((with_reducible refine gate_dst (N := 1) rfl ?_); (try (refine gate_guard (by rfl) ?_; dsimp only)); refine bx_ 1 #[.slice A0_0 l0_0.length c0_0, .int .i64 a0_1] 34 ?_; intro gb326 hg w3 hbox hb; have BK326 := Aside0.mk (hbox); have GW326 := gs_ hg; replace HB := Aside0.mk (below_step oB hb); clear hb hbox hg))
 (try simp only [Act.put, List.setIfInBounds_toArray, List.set_cons_zero, List.set_cons_succ])
 go_cut [17] (fun v17 wc => ∃ (kq : Nat) (x17_1 : Bool), v17 = .bool x17_1 ∧ Aside0 (spec_TreeOk.j0 kq x17_1 l0_0 a0_1 = some r) ∧ Aside0 (kq ≤ k) ∧ Aside0 (wc.heap[gb326]? = some (.cells #[(.slice A0_0 l0_0.length c0_0), .int .i64 a0_1] 34 (0, 0))) ∧ Aside0 (Below w.heap.size w wc))
 case first =>
  have H := HC2.out
  clear HC2
  replace H := bA H
  obtain ⟨t327, A4, H⟩ := H
  try dsimp only at H
  replace H := itB H
  rcases H with ⟨rfl, H⟩ | ⟨rfl, H⟩
  ·replace H := bA H
   obtain ⟨t328, A6, H⟩ := H
   try dsimp only at H
   have H' := Aside0.mk H
   clear H
   try go_wp2
   replace BK326 := Aside0.mk (blk_drew BK326.out)
   replace HB := Aside0.mk (below_drew1 HB.out)
   refine st_ 12 (fun w' => w'.cell? ⟨gb326, 0, none⟩ = some (.slice A0_0 l0_0.length c0_0) ∧ w'.cell? ⟨gb326, 1, none⟩ = some (.int .i64 a0_1)) spec_TreeOk.tab1 spec_TreeOk.bits1 oH (fun hHeld HT_ HW_ => ?_)
   generalize w3.drew = w7 at BK326 HB hHeld ⊢
   refine ta_ 0 6 HT_ HW_ hHeld ?_
   refine on_ 1 7 HT_ (fun K hK => ?_)
   refine gr_ 7 Try.func60 (spec_TabOk.calls k _ _ l0_0 a0_1 true _ (kC HR0_0) HC0_0.out A4.out) ?_
   rintro e w8 ⟨rfl, hb⟩
   refine ⟨_, rfl, ?_⟩
   replace BK326 := kb_ BK326 hb
   replace HB := Aside0.mk (below_step oB hb)
   refine hk_ hK 7 oH (fun hHeld => ?_)
   clear hK K
   refine pu_ 2 8 HT_ ?_
   refine pu_ 3 9 HT_ ?_
   refine pu_ 7 13 HT_ ?_
   refine ta_ 4 10 HT_ HW_ hHeld ?_
   refine ta_ 8 14 HT_ HW_ hHeld ?_
   refine pu_ 9 15 HT_ ?_
   refine on_ 5 11 HT_ (fun K hK => ?_)
   refine gr_ 11 Try.func18 (spec_Reached.calls k _ _ l0_0 a0_1 t328 _ (kC HR0_0) HC0_0.out A6.out) ?_
   rintro e w9 ⟨v329, rfl, ho0, hb⟩
   refine ⟨_, rfl, ?_⟩
   have HO330 := Aside0.mk (Kd.R_lower ho0 (below_size oB))
   replace BK326 := kb_ BK326 hb
   replace HB := Aside0.mk (below_step oB hb)
   obtain ⟨Ao10, co10, eo10⟩ := Kd.R_slice HO330.out
   (first | subst eo10 | (injection eo10 with f1_ f2_ f3_; have f4_ := f1_.symm; have f5_ := f3_.symm; clear f1_ f2_ f3_; subst f4_; subst f5_))
   refine hk_ hK 11 oH (fun hHeld => ?_)
   clear hK K
   refine pu_ 6 12 HT_ ?_
   refine pu_ 10 16 HT_ ?_
   refine pu_ 11 17 HT_ ?_
   refine dn_ HT_ ?_
   try go_wp2
   go_meet
   case rel => exact ⟨_, (((t328.length : Int) != (l0_0.length : Int))), oS, H', ⟨by first | omega | exact Nat.le_refl _⟩, ⟨oF BK326⟩, ⟨oB⟩⟩
  ·have H' := Aside0.mk H
   clear H
   try go_wp2
   replace BK326 := Aside0.mk (blk_drew BK326.out)
   replace HB := Aside0.mk (below_drew1 HB.out)
   refine st_ 12 (fun w' => w'.cell? ⟨gb326, 0, none⟩ = some (.slice A0_0 l0_0.length c0_0) ∧ w'.cell? ⟨gb326, 1, none⟩ = some (.int .i64 a0_1)) spec_TreeOk.tab1 spec_TreeOk.bits1 oH (fun hHeld HT_ HW_ => ?_)
   generalize w3.drew = w11 at BK326 HB hHeld ⊢
   refine ta_ 0 6 HT_ HW_ hHeld ?_
   refine on_ 1 7 HT_ (fun K hK => ?_)
   refine gr_ 7 Try.func60 (spec_TabOk.calls k _ _ l0_0 a0_1 false _ (kC HR0_0) HC0_0.out A4.out) ?_
   rintro e w12 ⟨rfl, hb⟩
   refine ⟨_, rfl, ?_⟩
   replace BK326 := kb_ BK326 hb
   replace HB := Aside0.mk (below_step oB hb)
   refine hk_ hK 7 oH (fun hHeld => ?_)
   clear hK K
   refine pu_ 2 8 HT_ ?_
   refine pu_ 3 9 HT_ ?_
   refine pn_ 4 10 HT_ ?_
   refine pn_ 5 11 HT_ ?_
   refine pn_ 6 12 HT_ ?_
   refine pn_ 7 13 HT_ ?_
   refine pn_ 8 14 HT_ ?_
   refine pn_ 9 15 HT_ ?_
   refine pn_ 10 16 HT_ ?_
   refine pu_ 11 17 HT_ ?_
   refine dn_ HT_ ?_
   try go_wp2
   go_meet
   case rel => exact ⟨_, (true), oS, H', ⟨by first | omega | exact Nat.le_refl _⟩, ⟨oF BK326⟩, ⟨oB⟩⟩
 case rest =>
  clear HC2
  obtain ⟨kq, x17_1, rfl, HA, HJ1, BK326, HB⟩ := hcut
  cases kq with
  | zero => exact absurd HA.out (by simp [spec_TreeOk.j0])
  | succ kj1 =>
   have H := HA.out
   clear HA
   simp only [spec_TreeOk.j0] at H
   replace H := itB H
   rcases H with ⟨rfl, H⟩ | ⟨rfl, H⟩
   ·obtain rfl := Option.some.inj H
    go_wp2
    go_ret
    exact ⟨oE, oB⟩
   ·have H' := Aside0.mk H
    clear H
    go_wp2
    go_loopg [3] kj1 (fun kq v3 w' => ∃ (x3_2 : Int), v3 = .int .i64 x3_2 ∧ Aside0 (spec_TreeOk.l0 kq x3_2 l0_0 a0_1 = some r) ∧ Aside0 (kq ≤ kj1) ∧ Aside0 (w'.heap[gb326]? = some (.cells #[(.slice A0_0 l0_0.length c0_0), .int .i64 a0_1] 34 (0, 0))) ∧ Aside0 (Below w.heap.size w w'))
    case atStart => exact ⟨(0), oS, H', ⟨Nat.le_refl _⟩, ⟨oF BK326⟩, ⟨oB⟩⟩
    case round =>
     clear H'
     obtain ⟨x3_2, rfl, HA, HK2, BK326, HB⟩ := hrel
     cases gk with
     | zero => exact absurd HA.out (by simp [spec_TreeOk.l0])
     | succ k2 =>
      have H := HA.out
      clear HA
      simp only [spec_TreeOk.l0] at H
      replace H := itD H
      rcases H with ⟨c14b0, H⟩ | ⟨c14b0, H⟩
      ·replace H := itD H
       rcases H with ⟨c15b0, H⟩ | ⟨c15b0, H⟩
       ·replace H := bA H
        obtain ⟨t333, A16, H⟩ := H
        try dsimp only at H
        by_cases c17 : t333 = ((rd_T40 l0_0 x3_2).f2)
        ·rw [if_pos c17] at H
         have c17b0 : (t333 == ((rd_T40 l0_0 x3_2).f2)) = true := beq_iff_eq.mpr c17
         have c17b1 : (t333 != ((rd_T40 l0_0 x3_2).f2)) = false := bne_eq_false_iff_eq.mpr c17
         clear c17
         have H' := Aside0.mk H
         clear H
         obtain ⟨⟨_, _⟩, _, _⟩ := z2 BK326
         have p331 : (0 ≤ (x3_2 : Int)) = True := oT
         have q331 : (x3_2 < (l0_0.length : Int)) = True := oT
         obtain ⟨ad331, A331_3, c331_3, A331_4, c331_4, A331_5, c331_5, e331, hx331_0, hx331_1, hx331_2, hx331_3, hx331_4, hx331_5, hl331_3, hi331_3, hl331_4, hi331_4, hl331_5, hi331_5⟩ := at_T40 HR0_0.out x3_2 oa oa
         cases e331
         replace hx331_0 := cB HB hx331_0
         replace hx331_1 := cB HB hx331_1
         replace hx331_2 := cB HB hx331_2
         replace hx331_3 := cB HB hx331_3
         replace hx331_4 := cB HB hx331_4
         replace hx331_5 := cB HB hx331_5
         have HR331_3 := Aside0.mk hi331_3
         have HC331_3 := Aside0.mk hl331_3
         clear hi331_3 hl331_3
         have HR331_4 := Aside0.mk hi331_4
         have HC331_4 := Aside0.mk hl331_4
         clear hi331_4 hl331_4
         have HR331_5 := Aside0.mk hi331_5
         have HC331_5 := Aside0.mk hl331_5
         clear hi331_5 hl331_5
         try go_wp2_with (first | ((with_reducible refine gate_dst (N := 4) rfl ?_); (try (refine gate_guard (by rfl) ?_; dsimp only)); refine bx_ 4 #[.int .i64 0, .int .i64 0, .int .i64 0, .slice none 0 0, .slice none 0 0, .slice none 0 0] 40 ?_; intro gb332 hg w19 hbox hb; have BK332 := Aside0.mk (hbox); have GW332 := gs_ hg; have NB326_332 := nl_ hg BK326; have NB332_326 := nr_ hg BK326; replace BK326 := kb_ BK326 hb; replace HB := Aside0.mk (below_step oB hb); clear hb hbox hg; have hnb20 := NB332_326.out; have hnc20 := NB326_332.out; obtain ⟨⟨_, _, _, _, _, _⟩, _, _, _, _, _, _⟩ := z6 BK332))
         generalize hW_ : ((((((w19.setCell ⟨gb332, 0, none⟩ (.int .i64 ((rd_T40 l0_0 x3_2).f0))).setCell ⟨gb332, 1, none⟩ (.int .i64 ((rd_T40 l0_0 x3_2).f1))).setCell ⟨gb332, 2, none⟩ (.int .i64 ((rd_T40 l0_0 x3_2).f2))).setCell ⟨gb332, 3, none⟩ (.slice A331_3 ((rd_T40 l0_0 x3_2).f3).length c331_3)).setCell ⟨gb332, 4, none⟩ (.slice A331_4 ((rd_T40 l0_0 x3_2).f4).length c331_4)).setCell ⟨gb332, 5, none⟩ (.slice A331_5 ((rd_T40 l0_0 x3_2).f5).length c331_5)) = w22
         replace BK326 := kw_ hW_ BK326
         replace BK332 := kv_ #[.int .i64 ((rd_T40 l0_0 x3_2).f0), .int .i64 ((rd_T40 l0_0 x3_2).f1), .int .i64 ((rd_T40 l0_0 x3_2).f2), .slice A331_3 ((rd_T40 l0_0 x3_2).f3).length c331_3, .slice A331_4 ((rd_T40 l0_0 x3_2).f4).length c331_4, .slice A331_5 ((rd_T40 l0_0 x3_2).f5).length c331_5] hW_ BK332
         replace HB := hw_ hW_ HB
         clear hW_
         replace BK326 := Aside0.mk (blk_drew BK326.out)
         replace BK332 := Aside0.mk (blk_drew BK332.out)
         replace HB := Aside0.mk (below_drew1 HB.out)
         refine s0_ 7 (fun w' => w'.cell? ⟨gb326, 0, none⟩ = some (.slice (some ad331) l0_0.length c0_0) ∧ w'.cell? ⟨gb326, 1, none⟩ = some (.int .i64 a0_1) ∧ w'.cell? ⟨gb332, 0, none⟩ = some (.int .i64 ((rd_T40 l0_0 x3_2).f0)) ∧ w'.cell? ⟨gb332, 1, none⟩ = some (.int .i64 ((rd_T40 l0_0 x3_2).f1)) ∧ w'.cell? ⟨gb332, 2, none⟩ = some (.int .i64 ((rd_T40 l0_0 x3_2).f2)) ∧ w'.cell? ⟨gb332, 3, none⟩ = some (.slice A331_3 ((rd_T40 l0_0 x3_2).f3).length c331_3) ∧ w'.cell? ⟨gb332, 4, none⟩ = some (.slice A331_4 ((rd_T40 l0_0 x3_2).f4).length c331_4) ∧ w'.cell? ⟨gb332, 5, none⟩ = some (.slice A331_5 ((rd_T40 l0_0 x3_2).f5).length c331_5)) oH (fun hHeld => ?_)
         generalize w22.drew = w23 at BK326 BK332 HB hHeld ⊢
         refine p0_ 1 31 ?_
         refine p0_ 4 34 ?_
         refine t0_ 0 30 hHeld ?_
         refine t0_ 2 32 hHeld ?_
         refine t0_ 5 35 hHeld ?_
         refine o0_ 3 33 (fun K hK => ?_)
         refine gr_ 33 Try.func61 (spec_LinksOf.calls k2 _ _ l0_0 a0_1 ((rd_T40 l0_0 x3_2).f0) t333 _ (kC HR0_0) HC0_0.out A16.out) ?_
         rintro e w24 ⟨rfl, hb⟩
         refine ⟨_, rfl, ?_⟩
         replace BK326 := kb_ BK326 hb
         replace BK332 := kb_ BK332 hb
         replace HB := Aside0.mk (below_step oB hb)
         refine hk_ hK 33 oH (fun hHeld => ?_)
         clear hK K
         refine p0_ 6 36 ?_
         refine done_ (by kernel_rfl) ?_
         try go_wp2
         go_loopg [5] k2 (fun kq v5 w' => ∃ (x5_3 : Int), v5 = .int .i64 x5_3 ∧ Aside0 (spec_TreeOk.l1 kq x3_2 x5_3 l0_0 a0_1 ((rd_T40 l0_0 x3_2).f0) ((rd_T40 l0_0 x3_2).f1) ((rd_T40 l0_0 x3_2).f2) ((rd_T40 l0_0 x3_2).f3) ((rd_T40 l0_0 x3_2).f4) ((rd_T40 l0_0 x3_2).f5) = some r) ∧ Aside0 (kq ≤ k2) ∧ Aside0 (w'.heap[gb326]? = some (.cells #[(.slice (some ad331) l0_0.length c0_0), .int .i64 a0_1] 34 (0, 0))) ∧ Aside0 (w'.heap[gb332]? = some (.cells #[.int .i64 ((rd_T40 l0_0 x3_2).f0), .int .i64 ((rd_T40 l0_0 x3_2).f1), .int .i64 ((rd_T40 l0_0 x3_2).f2), (.slice A331_3 ((rd_T40 l0_0 x3_2).f3).length c331_3), (.slice A331_4 ((rd_T40 l0_0 x3_2).f4).length c331_4), (.slice A331_5 ((rd_T40 l0_0 x3_2).f5).length c331_5)] 40 (0, 0))) ∧ Aside0 (Below w.heap.size w w'))
         case atStart => exact ⟨(0), oS, H', ⟨Nat.le_refl _⟩, ⟨oF BK326⟩, ⟨oF BK332⟩, ⟨oB⟩⟩
         case round =>
          clear H'
          try clear c14b0
          try clear c15b0
          try clear c17
          obtain ⟨x5_3, rfl, HA, HK3, BK326, BK332, HB⟩ := hrel
          cases gk with
          | zero => exact absurd HA.out (by simp [spec_TreeOk.l1])
          | succ k3 =>
           have H := HA.out
           clear HA
           simp only [spec_TreeOk.l1] at H
           replace H := itD H
           rcases H with ⟨c25b0, H⟩ | ⟨c25b0, H⟩
           ·replace H := itD H
            rcases H with ⟨c26b0, H⟩ | ⟨c26b0, H⟩
            ·replace H := bA H
             obtain ⟨t335, A27, H⟩ := H
             try dsimp only at H
             replace H := itD H
             rcases H with ⟨c28b0, H⟩ | ⟨c28b0, H⟩
             ·obtain rfl := Option.some.inj H
              have hnb29 := NB332_326.out
              have hnc29 := NB326_332.out
              obtain ⟨⟨_, _, _, _, _, _⟩, _, _, _, _, _, _⟩ := z6 BK332
              try go_wp2
              replace BK326 := Aside0.mk (blk_drew BK326.out)
              replace BK332 := Aside0.mk (blk_drew BK332.out)
              replace HB := Aside0.mk (below_drew1 HB.out)
              have p334 : (0 ≤ (x5_3 : Int)) = True := oT
              have q334 : (x5_3 < (((rd_T40 l0_0 x3_2).f4).length : Int)) = True := oT
              obtain ⟨ad334, e334, hx334_0, hx334_1⟩ := at_T82 HR331_4.out x5_3 oa oa
              have hw334_1 := hx334_1
              have hw334_0 := hx334_0
              cases e334
              replace hx334_0 := cB HB hx334_0
              replace hx334_1 := cB HB hx334_1
              refine st_ 9 (fun w' => w'.cell? ⟨gb326, 0, none⟩ = some (.slice (some ad331) l0_0.length c0_0) ∧ w'.cell? ⟨gb326, 1, none⟩ = some (.int .i64 a0_1) ∧ w'.cell? ⟨gb332, 0, none⟩ = some (.int .i64 ((rd_T40 l0_0 x3_2).f0)) ∧ w'.cell? ⟨gb332, 1, none⟩ = some (.int .i64 ((rd_T40 l0_0 x3_2).f1)) ∧ w'.cell? ⟨gb332, 2, none⟩ = some (.int .i64 ((rd_T40 l0_0 x3_2).f2)) ∧ w'.cell? ⟨gb332, 3, none⟩ = some (.slice A331_3 ((rd_T40 l0_0 x3_2).f3).length c331_3) ∧ w'.cell? ⟨gb332, 4, none⟩ = some (.slice (some ad334) ((rd_T40 l0_0 x3_2).f4).length c331_4) ∧ w'.cell? ⟨gb332, 5, none⟩ = some (.slice A331_5 ((rd_T40 l0_0 x3_2).f5).length c331_5) ∧ w'.cell? (ad334.add ((x5_3).toNat * 2)) = some (.string ((rd_T82 ((rd_T40 l0_0 x3_2).f4) x5_3).f0)) ∧ w'.cell? ⟨(ad334.add ((x5_3).toNat * 2)).block, (ad334.add ((x5_3).toNat * 2)).off + 1, none⟩ = some (.int .i64 ((rd_T82 ((rd_T40 l0_0 x3_2).f4) x5_3).f1))) spec_TreeOk.tab12 spec_TreeOk.bits12 oH (fun hHeld HT_ HW_ => ?_)
              generalize wr.drew = w31 at BK326 BK332 HB hx334_0 hx334_1 hHeld ⊢
              refine pu_ 1 45 HT_ ?_
              refine pu_ 3 47 HT_ ?_
              refine ta_ 0 44 HT_ HW_ hHeld ?_
              refine ta_ 2 46 HT_ HW_ hHeld ?_
              refine pu_ 4 48 HT_ ?_
              refine pu_ 5 49 HT_ ?_
              refine ta_ 6 50 HT_ HW_ hHeld ?_
              refine on_ 7 51 HT_ (fun K hK => ?_)
              refine gr_ 51 Try.func36 (spec_l4At.calls k3 _ _ l0_0 a0_1 ((rd_T82 ((rd_T40 l0_0 x3_2).f4) x5_3).f1) t335 _ (kC HR0_0) HC0_0.out A27.out) ?_
              rintro e w32 ⟨rfl, hb⟩
              refine ⟨_, rfl, ?_⟩
              replace BK326 := kb_ BK326 hb
              replace BK332 := kb_ BK332 hb
              replace HB := Aside0.mk (below_step oB hb)
              refine hk_ hK 51 oH (fun hHeld => ?_)
              clear hK K
              refine pu_ 8 52 HT_ ?_
              refine dn_ HT_ ?_
              try go_wp2
              go_ret
              exact ⟨oE, oB⟩
             ·have H' := Aside0.mk H
              clear H
              have hnb33 := NB332_326.out
              have hnc33 := NB326_332.out
              obtain ⟨⟨_, _, _, _, _, _⟩, _, _, _, _, _, _⟩ := z6 BK332
              try go_wp2
              replace BK326 := Aside0.mk (blk_drew BK326.out)
              replace BK332 := Aside0.mk (blk_drew BK332.out)
              replace HB := Aside0.mk (below_drew1 HB.out)
              have p334 : (0 ≤ (x5_3 : Int)) = True := oT
              have q334 : (x5_3 < (((rd_T40 l0_0 x3_2).f4).length : Int)) = True := oT
              obtain ⟨ad334, e334, hx334_0, hx334_1⟩ := at_T82 HR331_4.out x5_3 oa oa
              have hw334_1 := hx334_1
              have hw334_0 := hx334_0
              cases e334
              replace hx334_0 := cB HB hx334_0
              replace hx334_1 := cB HB hx334_1
              refine st_ 9 (fun w' => w'.cell? ⟨gb326, 0, none⟩ = some (.slice (some ad331) l0_0.length c0_0) ∧ w'.cell? ⟨gb326, 1, none⟩ = some (.int .i64 a0_1) ∧ w'.cell? ⟨gb332, 0, none⟩ = some (.int .i64 ((rd_T40 l0_0 x3_2).f0)) ∧ w'.cell? ⟨gb332, 1, none⟩ = some (.int .i64 ((rd_T40 l0_0 x3_2).f1)) ∧ w'.cell? ⟨gb332, 2, none⟩ = some (.int .i64 ((rd_T40 l0_0 x3_2).f2)) ∧ w'.cell? ⟨gb332, 3, none⟩ = some (.slice A331_3 ((rd_T40 l0_0 x3_2).f3).length c331_3) ∧ w'.cell? ⟨gb332, 4, none⟩ = some (.slice (some ad334) ((rd_T40 l0_0 x3_2).f4).length c331_4) ∧ w'.cell? ⟨gb332, 5, none⟩ = some (.slice A331_5 ((rd_T40 l0_0 x3_2).f5).length c331_5) ∧ w'.cell? (ad334.add ((x5_3).toNat * 2)) = some (.string ((rd_T82 ((rd_T40 l0_0 x3_2).f4) x5_3).f0)) ∧ w'.cell? ⟨(ad334.add ((x5_3).toNat * 2)).block, (ad334.add ((x5_3).toNat * 2)).off + 1, none⟩ = some (.int .i64 ((rd_T82 ((rd_T40 l0_0 x3_2).f4) x5_3).f1))) spec_TreeOk.tab12 spec_TreeOk.bits12 oH (fun hHeld HT_ HW_ => ?_)
              generalize wr.drew = w35 at BK326 BK332 HB hx334_0 hx334_1 hHeld ⊢
              refine pu_ 1 45 HT_ ?_
              refine pu_ 3 47 HT_ ?_
              refine ta_ 0 44 HT_ HW_ hHeld ?_
              refine ta_ 2 46 HT_ HW_ hHeld ?_
              refine pu_ 4 48 HT_ ?_
              refine pu_ 5 49 HT_ ?_
              refine ta_ 6 50 HT_ HW_ hHeld ?_
              refine on_ 7 51 HT_ (fun K hK => ?_)
              refine gr_ 51 Try.func36 (spec_l4At.calls k3 _ _ l0_0 a0_1 ((rd_T82 ((rd_T40 l0_0 x3_2).f4) x5_3).f1) t335 _ (kC HR0_0) HC0_0.out A27.out) ?_
              rintro e w36 ⟨rfl, hb⟩
              refine ⟨_, rfl, ?_⟩
              replace BK326 := kb_ BK326 hb
              replace BK332 := kb_ BK332 hb
              replace HB := Aside0.mk (below_step oB hb)
              refine hk_ hK 51 oH (fun hHeld => ?_)
              clear hK K
              refine pu_ 8 52 HT_ ?_
              refine dn_ HT_ ?_
              try go_wp2
              go_roundg k3
              case measure => have := HJ1.out; have := HK2.out; have := HK3.out; omega
              case rel => exact ⟨(wrap64 (x5_3 + 1)), oS, H', ⟨by have := HJ1.out; have := HK2.out; have := HK3.out; omega⟩, ⟨oF BK326⟩, ⟨oF BK332⟩, ⟨oB⟩⟩
            ·cases H
           ·have H' := Aside0.mk H
            clear H
            have hnb37 := NB332_326.out
            have hnc37 := NB326_332.out
            obtain ⟨⟨_, _, _, _, _, _⟩, _, _, _, _, _, _⟩ := z6 BK332
            go_wp2
            go_roundg k3
            case measure => have := HJ1.out; have := HK2.out; have := HK3.out; omega
            case rel => exact ⟨(wrap64 (x3_2 + 1)), oS, H', ⟨by have := HJ1.out; have := HK2.out; have := HK3.out; omega⟩, ⟨oF BK326⟩, ⟨oB⟩⟩
        ·rw [if_neg c17] at H
         have c17b0 : (t333 == ((rd_T40 l0_0 x3_2).f2)) = false := beq_eq_false_iff_ne.mpr c17
         have c17b1 : (t333 != ((rd_T40 l0_0 x3_2).f2)) = true := bne_iff_ne.mpr c17
         obtain rfl := Option.some.inj H
         obtain ⟨⟨_, _⟩, _, _⟩ := z2 BK326
         have p331 : (0 ≤ (x3_2 : Int)) = True := oT
         have q331 : (x3_2 < (l0_0.length : Int)) = True := oT
         obtain ⟨ad331, A331_3, c331_3, A331_4, c331_4, A331_5, c331_5, e331, hx331_0, hx331_1, hx331_2, hx331_3, hx331_4, hx331_5, hl331_3, hi331_3, hl331_4, hi331_4, hl331_5, hi331_5⟩ := at_T40 HR0_0.out x3_2 oa oa
         cases e331
         replace hx331_0 := cB HB hx331_0
         replace hx331_1 := cB HB hx331_1
         replace hx331_2 := cB HB hx331_2
         replace hx331_3 := cB HB hx331_3
         replace hx331_4 := cB HB hx331_4
         replace hx331_5 := cB HB hx331_5
         have HR331_3 := Aside0.mk hi331_3
         have HC331_3 := Aside0.mk hl331_3
         clear hi331_3 hl331_3
         have HR331_4 := Aside0.mk hi331_4
         have HC331_4 := Aside0.mk hl331_4
         clear hi331_4 hl331_4
         have HR331_5 := Aside0.mk hi331_5
         have HC331_5 := Aside0.mk hl331_5
         clear hi331_5 hl331_5
         try go_wp2_with (first | ((with_reducible refine gate_dst (N := 4) rfl ?_); (try (refine gate_guard (by rfl) ?_; dsimp only)); refine bx_ 4 #[.int .i64 0, .int .i64 0, .int .i64 0, .slice none 0 0, .slice none 0 0, .slice none 0 0] 40 ?_; intro gb332 hg w40 hbox hb; have BK332 := Aside0.mk (hbox); have GW332 := gs_ hg; have NB326_332 := nl_ hg BK326; have NB332_326 := nr_ hg BK326; replace BK326 := kb_ BK326 hb; replace HB := Aside0.mk (below_step oB hb); clear hb hbox hg; have hnb41 := NB332_326.out; have hnc41 := NB326_332.out; obtain ⟨⟨_, _, _, _, _, _⟩, _, _, _, _, _, _⟩ := z6 BK332))
         generalize hW_ : ((((((w40.setCell ⟨gb332, 0, none⟩ (.int .i64 ((rd_T40 l0_0 x3_2).f0))).setCell ⟨gb332, 1, none⟩ (.int .i64 ((rd_T40 l0_0 x3_2).f1))).setCell ⟨gb332, 2, none⟩ (.int .i64 ((rd_T40 l0_0 x3_2).f2))).setCell ⟨gb332, 3, none⟩ (.slice A331_3 ((rd_T40 l0_0 x3_2).f3).length c331_3)).setCell ⟨gb332, 4, none⟩ (.slice A331_4 ((rd_T40 l0_0 x3_2).f4).length c331_4)).setCell ⟨gb332, 5, none⟩ (.slice A331_5 ((rd_T40 l0_0 x3_2).f5).length c331_5)) = w43
         replace BK326 := kw_ hW_ BK326
         replace BK332 := kv_ #[.int .i64 ((rd_T40 l0_0 x3_2).f0), .int .i64 ((rd_T40 l0_0 x3_2).f1), .int .i64 ((rd_T40 l0_0 x3_2).f2), .slice A331_3 ((rd_T40 l0_0 x3_2).f3).length c331_3, .slice A331_4 ((rd_T40 l0_0 x3_2).f4).length c331_4, .slice A331_5 ((rd_T40 l0_0 x3_2).f5).length c331_5] hW_ BK332
         replace HB := hw_ hW_ HB
         clear hW_
         replace BK326 := Aside0.mk (blk_drew BK326.out)
         replace BK332 := Aside0.mk (blk_drew BK332.out)
         replace HB := Aside0.mk (below_drew1 HB.out)
         refine s0_ 7 (fun w' => w'.cell? ⟨gb326, 0, none⟩ = some (.slice (some ad331) l0_0.length c0_0) ∧ w'.cell? ⟨gb326, 1, none⟩ = some (.int .i64 a0_1) ∧ w'.cell? ⟨gb332, 0, none⟩ = some (.int .i64 ((rd_T40 l0_0 x3_2).f0)) ∧ w'.cell? ⟨gb332, 1, none⟩ = some (.int .i64 ((rd_T40 l0_0 x3_2).f1)) ∧ w'.cell? ⟨gb332, 2, none⟩ = some (.int .i64 ((rd_T40 l0_0 x3_2).f2)) ∧ w'.cell? ⟨gb332, 3, none⟩ = some (.slice A331_3 ((rd_T40 l0_0 x3_2).f3).length c331_3) ∧ w'.cell? ⟨gb332, 4, none⟩ = some (.slice A331_4 ((rd_T40 l0_0 x3_2).f4).length c331_4) ∧ w'.cell? ⟨gb332, 5, none⟩ = some (.slice A331_5 ((rd_T40 l0_0 x3_2).f5).length c331_5)) oH (fun hHeld => ?_)
         generalize w43.drew = w44 at BK326 BK332 HB hHeld ⊢
         refine p0_ 1 31 ?_
         refine p0_ 4 34 ?_
         refine t0_ 0 30 hHeld ?_
         refine t0_ 2 32 hHeld ?_
         refine t0_ 5 35 hHeld ?_
         refine o0_ 3 33 (fun K hK => ?_)
         refine gr_ 33 Try.func61 (spec_LinksOf.calls k2 _ _ l0_0 a0_1 ((rd_T40 l0_0 x3_2).f0) t333 _ (kC HR0_0) HC0_0.out A16.out) ?_
         rintro e w45 ⟨rfl, hb⟩
         refine ⟨_, rfl, ?_⟩
         replace BK326 := kb_ BK326 hb
         replace BK332 := kb_ BK332 hb
         replace HB := Aside0.mk (below_step oB hb)
         refine hk_ hK 33 oH (fun hHeld => ?_)
         clear hK K
         refine p0_ 6 36 ?_
         refine done_ (by kernel_rfl) ?_
         try go_wp2
         go_ret
         exact ⟨oE, oB⟩
       ·cases H
      ·obtain rfl := Option.some.inj H
       obtain ⟨⟨_, _⟩, _, _⟩ := z2 BK326
       go_wp2
       go_ret
       exact ⟨oE, oB⟩

/-! ### slices_Clone_byte_byte: function 77 -/
def slices_Clone_byte_byte.f (l0 : List Int) : Option (List Int) := (some (([] : List Int) : List Int)).bind fun y336 => (if y336.length + l0.length < 140737488355328 then (some (y336 ++ l0)) else (none))
set_option maxHeartbeats 8000000 in
set_option maxRecDepth 100000 in
theorem slices_Clone_byte_byte.calls_some (a0_ : Addr) (c0 : Nat) (l0 : List Int) (r : List Int) (w : World) (hr0 : Kd.C (Kd.int .u8) w (some a0_) l0.length l0) (hc0 : l0.length ≤ c0) (h : slices_Clone_byte_byte.f l0 = some r) :
  Calls Try.prog 77 #[.slice (some a0_) l0.length c0] w fun e w' => ∃ v0_ : Value, e = .returned (v0_) ∧ Kd.R (Kd.int .u8) 5 w' w.heap.size (fun _ => True) v0_ r ∧ Below w.heap.size w w' := by
 have HR0 := Aside0.mk hr0
 have HC0 := Aside0.mk hc0
 clear hr0 hc0
 have HB := Aside0.mk (Below.refl w.heap.size w)
 unfold slices_Clone_byte_byte.f at h
 have H := h
 clear h
 obtain ⟨y336, hy336⟩ : ∃ y_ : List Int, y_ = (([] : List Int)) := ⟨_, rfl⟩
 replace H : (if y336.length + l0.length < 140737488355328 then (some (y336 ++ l0)) else (none)) = some r := by first | (rw [hy336]; with_reducible exact H) | (have H2_ := (Option.bind_some _ _).symm.trans H; rw [hy336]; with_reducible exact H2_) | (have H2_ := (Option.bind_some _ _).symm.trans H; with_reducible exact H2_) | with_reducible exact H | (rw [hy336]; exact H) | exact H
 have Ny336 := Aside0.mk hy336
 clear hy336
 by_cases c2 : y336.length + l0.length < 140737488355328
 ·rw [if_pos c2] at H
  have LMc2 := Aside0.mk c2
  clear c2
  obtain ⟨y339, hy339⟩ : ∃ y_ : List Int, y_ = (y336 ++ l0) := ⟨_, rfl⟩
  replace H : (some y339) = some r := by first | (rw [hy339]; with_reducible exact H) | (have H2_ := (Option.bind_some _ _).symm.trans H; rw [hy339]; with_reducible exact H2_) | (have H2_ := (Option.bind_some _ _).symm.trans H; with_reducible exact H2_) | with_reducible exact H | (rw [hy339]; exact H) | exact H
  have Ny339 := Aside0.mk hy339
  clear hy339
  obtain rfl := Option.some.inj H
  have hq_ := Lib.run_eql_slice_nil (P := Try.prog) w 25 5 (some a0_) l0.length c0 0 0 (by kernel_rfl)
  go_enter Try.func77, Try.ntmps77
  go_wp2_with (first | ((with_reducible refine gate_dst (N := 5) rfl ?_); refine Kd.R_lit (Kd.int .u8) _ 5 ?hg (N := 5) ?hd (xs := ([] : List Int)) (inner := []) (ok := fun _ => True) (okp := fun _ => True) ?hr ?hp (fun _ hk => hk) trivial (Below.refl _ _) (Nat.le_refl _) (by simp) ?_; (case hd => rfl); (case hg => rfl); (case hr => first | (go_simp; done) | (go_simp; rfl)); (case hp => exact (Reps.none _ _)); intro v337 w3 ho4 hb hg_ hnew_; clear hg_ hnew_; (first | rw [← Ny336.out] at ho4 | (simp only [Int.reduceToNat] at ho4; rw [← Ny336.out] at ho4)); have HO338 := Aside0.mk (Kd.R_lower ho4 (below_size oB)); replace HB := Aside0.mk (below_step oB hb); clear hb ho4) | ((with_reducible refine gate_builtin (b := .append) (xs := #[.tmp 5, .tmp 6]) rfl ?_); at_builtin; refine Kd.R_append_rows (Kd.int .u8) (w0 := w) w.heap.size rfl (.tmp 5) (.tmp 6) 25 5 (.int .u8 0) 1 rfl Try.underlying25 info5 rfl (by decide) (by omega) v337 y336 l0 _ _ _ (fun _ => True) (fun _ => False) rfl rfl ?aO ?aR (fun _ _ h => h) (fun _ h => h.elim) ?aF ?aB ?aS ?aL ?_; (case aR => repeat (first | exact (Kd.C_below HR0.out HB.out) | (with_reducible refine Kd.C_alloc ?_ _) | (with_reducible refine Kd.C_drewN ?_ _) | (with_reducible refine Kd.C_drew ?_))); (case aB => exact oB); (case aF => exact (fun _ _ => trivial)); (case aO => exact (oR HO338)); (case aS => exact (below_size oB)); (case aL => have := LMc2.out; omega); intro v340 w5 ho hb hg hat; rw [← Ny339.out] at ho; have HO341 := Aside0.mk (ho); replace HB := Aside0.mk (hb); clear HO338; clear ho hb hg hat))
  go_ret
  exact ⟨_, oE, oR HO341, oB⟩
 ·rw [if_neg c2] at H
  exact absurd H (by simp)

set_option maxHeartbeats 8000000 in
set_option maxRecDepth 100000 in
theorem slices_Clone_byte_byte.calls (A0 : Option Addr) (c0 : Nat) (l0 : List Int) (r : List Int) (w : World) (hr0 : Kd.C (Kd.int .u8) w A0 l0.length l0) (hc0 : l0.length ≤ c0) (h : slices_Clone_byte_byte.f l0 = some r) :
  Calls Try.prog 77 #[.slice A0 l0.length c0] w fun e w' => ∃ v0_ : Value, e = .returned (v0_) ∧ Kd.R (Kd.int .u8) 5 w' w.heap.size (fun _ => True) v0_ r ∧ Below w.heap.size w w' := by
 rcases A0 with _ | a0_
 ·have hl_ : l0 = [] := by
   rcases Nat.eq_zero_or_pos l0.length with hz_ | hz_
   ·exact List.eq_nil_of_length_eq_zero hz_
   ·obtain ⟨ad_, he_, _⟩ := hr0.2.2 hz_
    cases he_
  subst hl_
  obtain rfl : r = [] := by
   simp [slices_Clone_byte_byte.f] at h
   exact h
  have hq_ := Lib.run_eql_slice_nil (P := Try.prog) w 25 5 none 0 c0 0 0 (by kernel_rfl)
  go_enter Try.func77, Try.ntmps77
  go_wp2
  go_ret
  exact ⟨_, rfl, Kd.R_nil _ _ _ _ _, Below.refl _ _⟩
 ·exact slices_Clone_byte_byte.calls_some a0_ c0 l0 r w hr0 hc0 h

/-! ### slices_Clone_Ent: function 78 -/
def slices_Clone_Ent.f (l0 : List (S82)) : Option ((List (S82))) := (some (([] : List (S82)) : List (S82))).bind fun y342 => (if y342.length + l0.length < 5864062014805 then (some (y342 ++ l0)) else (none))
set_option maxHeartbeats 8000000 in
set_option maxRecDepth 100000 in
theorem slices_Clone_Ent.calls_some (a0_ : Addr) (c0 : Nat) (l0 : List (S82)) (r : List (S82)) (w : World) (hr0 : Kd.C k82 w (some a0_) l0.length l0) (hc0 : l0.length ≤ c0) (h : slices_Clone_Ent.f l0 = some r) :
  Calls Try.prog 78 #[.slice (some a0_) l0.length c0] w fun e w' => ∃ v0_ : Value, e = .returned (v0_) ∧ Kd.R k82 82 w' w.heap.size (fun _ => True) v0_ r ∧ Below w.heap.size w w' := by
 have HR0 := Aside0.mk hr0
 have HC0 := Aside0.mk hc0
 clear hr0 hc0
 have HB := Aside0.mk (Below.refl w.heap.size w)
 unfold slices_Clone_Ent.f at h
 have H := h
 clear h
 obtain ⟨y342, hy342⟩ : ∃ y_ : List (S82), y_ = (([] : List (S82))) := ⟨_, rfl⟩
 replace H : (if y342.length + l0.length < 5864062014805 then (some (y342 ++ l0)) else (none)) = some r := by first | (rw [hy342]; with_reducible exact H) | (have H2_ := (Option.bind_some _ _).symm.trans H; rw [hy342]; with_reducible exact H2_) | (have H2_ := (Option.bind_some _ _).symm.trans H; with_reducible exact H2_) | with_reducible exact H | (rw [hy342]; exact H) | exact H
 have Ny342 := Aside0.mk hy342
 clear hy342
 by_cases c2 : y342.length + l0.length < 5864062014805
 ·rw [if_pos c2] at H
  have LMc2 := Aside0.mk c2
  clear c2
  obtain ⟨y345, hy345⟩ : ∃ y_ : List (S82), y_ = (y342 ++ l0) := ⟨_, rfl⟩
  replace H : (some y345) = some r := by first | (rw [hy345]; with_reducible exact H) | (have H2_ := (Option.bind_some _ _).symm.trans H; rw [hy345]; with_reducible exact H2_) | (have H2_ := (Option.bind_some _ _).symm.trans H; with_reducible exact H2_) | with_reducible exact H | (rw [hy345]; exact H) | exact H
  have Ny345 := Aside0.mk hy345
  clear hy345
  obtain rfl := Option.some.inj H
  have hq_ := Lib.run_eql_slice_nil (P := Try.prog) w 37 82 (some a0_) l0.length c0 0 0 (by kernel_rfl)
  go_enter Try.func78, Try.ntmps78
  go_wp2_with (first | ((with_reducible refine gate_dst (N := 5) rfl ?_); refine Kd.R_lit k82 _ 82 ?hg (N := 5) ?hd (xs := ([] : List (S82))) (inner := []) (ok := fun _ => True) (okp := fun _ => True) ?hr ?hp (fun _ hk => hk) trivial (Below.refl _ _) (Nat.le_refl _) (by simp) ?_; (case hd => rfl); (case hg => rfl); (case hr => first | (go_simp; done) | (go_simp; rfl)); (case hp => exact (Reps.none _ _)); intro v343 w3 ho4 hb hg_ hnew_; clear hg_ hnew_; (first | rw [← Ny342.out] at ho4 | (simp only [Int.reduceToNat] at ho4; rw [← Ny342.out] at ho4)); have HO344 := Aside0.mk (Kd.R_lower ho4 (below_size oB)); replace HB := Aside0.mk (below_step oB hb); clear hb ho4) | ((with_reducible refine gate_builtin (b := .append) (xs := #[.tmp 5, .tmp 6]) rfl ?_); at_builtin; refine Kd.R_append_rows k82 (w0 := w) w.heap.size rfl (.tmp 5) (.tmp 6) 37 82 (.agg #[(.string ⟨#[]⟩), (.int .i64 0)]) 24 rfl Try.underlying37 info82 rfl (by decide) (by omega) v343 y342 l0 _ _ _ (fun _ => True) (fun _ => False) rfl rfl ?aO ?aR (fun _ _ h => h) (fun _ h => h.elim) ?aF ?aB ?aS ?aL ?_; (case aR => repeat (first | exact (Kd.C_below HR0.out HB.out) | (with_reducible refine Kd.C_alloc ?_ _) | (with_reducible refine Kd.C_drewN ?_ _) | (with_reducible refine Kd.C_drew ?_))); (case aB => exact oB); (case aF => exact (fun _ _ => trivial)); (case aO => exact (oR HO344)); (case aS => exact (below_size oB)); (case aL => have := LMc2.out; omega); intro v346 w5 ho hb hg hat; rw [← Ny345.out] at ho; have HO347 := Aside0.mk (ho); replace HB := Aside0.mk (hb); clear HO344; clear ho hb hg hat))
  go_ret
  exact ⟨_, oE, oR HO347, oB⟩
 ·rw [if_neg c2] at H
  exact absurd H (by simp)

set_option maxHeartbeats 8000000 in
set_option maxRecDepth 100000 in
theorem slices_Clone_Ent.calls (A0 : Option Addr) (c0 : Nat) (l0 : List (S82)) (r : List (S82)) (w : World) (hr0 : Kd.C k82 w A0 l0.length l0) (hc0 : l0.length ≤ c0) (h : slices_Clone_Ent.f l0 = some r) :
  Calls Try.prog 78 #[.slice A0 l0.length c0] w fun e w' => ∃ v0_ : Value, e = .returned (v0_) ∧ Kd.R k82 82 w' w.heap.size (fun _ => True) v0_ r ∧ Below w.heap.size w w' := by
 rcases A0 with _ | a0_
 ·have hl_ : l0 = [] := by
   rcases Nat.eq_zero_or_pos l0.length with hz_ | hz_
   ·exact List.eq_nil_of_length_eq_zero hz_
   ·obtain ⟨ad_, he_, _⟩ := hr0.2.2 hz_
    cases he_
  subst hl_
  obtain rfl : r = [] := by
   simp [slices_Clone_Ent.f] at h
   exact h
  have hq_ := Lib.run_eql_slice_nil (P := Try.prog) w 37 82 none 0 c0 0 0 (by kernel_rfl)
  go_enter Try.func78, Try.ntmps78
  go_wp2
  go_ret
  exact ⟨_, rfl, Kd.R_nil _ _ _ _ _, Below.refl _ _⟩
 ·exact slices_Clone_Ent.calls_some a0_ c0 l0 r w hr0 hc0 h

/-! ### slices_Clone_Attr: function 79 -/
def slices_Clone_Attr.f (l0 : List (S90)) : Option ((List (S90))) := (some (([] : List (S90)) : List (S90))).bind fun y348 => (if y348.length + l0.length < 4398046511104 then (some (y348 ++ l0)) else (none))
set_option maxHeartbeats 8000000 in
set_option maxRecDepth 100000 in
theorem slices_Clone_Attr.calls_some (a0_ : Addr) (c0 : Nat) (l0 : List (S90)) (r : List (S90)) (w : World) (hr0 : Kd.C k90 w (some a0_) l0.length l0) (hc0 : l0.length ≤ c0) (h : slices_Clone_Attr.f l0 = some r) :
  Calls Try.prog 79 #[.slice (some a0_) l0.length c0] w fun e w' => ∃ v0_ : Value, e = .returned (v0_) ∧ Kd.R k90 90 w' w.heap.size (fun _ => True) v0_ r ∧ Below w.heap.size w w' := by
 have HR0 := Aside0.mk hr0
 have HC0 := Aside0.mk hc0
 clear hr0 hc0
 have HB := Aside0.mk (Below.refl w.heap.size w)
 unfold slices_Clone_Attr.f at h
 have H := h
 clear h
 obtain ⟨y348, hy348⟩ : ∃ y_ : List (S90), y_ = (([] : List (S90))) := ⟨_, rfl⟩
 replace H : (if y348.length + l0.length < 4398046511104 then (some (y348 ++ l0)) else (none)) = some r := by first | (rw [hy348]; with_reducible exact H) | (have H2_ := (Option.bind_some _ _).symm.trans H; rw [hy348]; with_reducible exact H2_) | (have H2_ := (Option.bind_some _ _).symm.trans H; with_reducible exact H2_) | with_reducible exact H | (rw [hy348]; exact H) | exact H
 have Ny348 := Aside0.mk hy348
 clear hy348
 by_cases c2 : y348.length + l0.length < 4398046511104
 ·rw [if_pos c2] at H
  have LMc2 := Aside0.mk c2
  clear c2
  obtain ⟨y351, hy351⟩ : ∃ y_ : List (S90), y_ = (y348 ++ l0) := ⟨_, rfl⟩
  replace H : (some y351) = some r := by first | (rw [hy351]; with_reducible exact H) | (have H2_ := (Option.bind_some _ _).symm.trans H; rw [hy351]; with_reducible exact H2_) | (have H2_ := (Option.bind_some _ _).symm.trans H; with_reducible exact H2_) | with_reducible exact H | (rw [hy351]; exact H) | exact H
  have Ny351 := Aside0.mk hy351
  clear hy351
  obtain rfl := Option.some.inj H
  have hq_ := Lib.run_eql_slice_nil (P := Try.prog) w 38 90 (some a0_) l0.length c0 0 0 (by kernel_rfl)
  go_enter Try.func79, Try.ntmps79
  go_wp2_with (first | ((with_reducible refine gate_dst (N := 5) rfl ?_); refine Kd.R_lit k90 _ 90 ?hg (N := 5) ?hd (xs := ([] : List (S90))) (inner := []) (ok := fun _ => True) (okp := fun _ => True) ?hr ?hp (fun _ hk => hk) trivial (Below.refl _ _) (Nat.le_refl _) (by simp) ?_; (case hd => rfl); (case hg => rfl); (case hr => first | (go_simp; done) | (go_simp; rfl)); (case hp => exact (Reps.none _ _)); intro v349 w3 ho4 hb hg_ hnew_; clear hg_ hnew_; (first | rw [← Ny348.out] at ho4 | (simp only [Int.reduceToNat] at ho4; rw [← Ny348.out] at ho4)); have HO350 := Aside0.mk (Kd.R_lower ho4 (below_size oB)); replace HB := Aside0.mk (below_step oB hb); clear hb ho4) | ((with_reducible refine gate_builtin (b := .append) (xs := #[.tmp 5, .tmp 6]) rfl ?_); at_builtin; refine Kd.R_append_rows k90 (w0 := w) w.heap.size rfl (.tmp 5) (.tmp 6) 38 90 (.agg #[(.string ⟨#[]⟩), (.string ⟨#[]⟩)]) 32 rfl Try.underlying38 info90 rfl (by decide) (by omega) v349 y348 l0 _ _ _ (fun _ => True) (fun _ => False) rfl rfl ?aO ?aR (fun _ _ h => h) (fun _ h => h.elim) ?aF ?aB ?aS ?aL ?_; (case aR => repeat (first | exact (Kd.C_below HR0.out HB.out) | (with_reducible refine Kd.C_alloc ?_ _) | (with_reducible refine Kd.C_drewN ?_ _) | (with_reducible refine Kd.C_drew ?_))); (case aB => exact oB); (case aF => exact (fun _ _ => trivial)); (case aO => exact (oR HO350)); (case aS => exact (below_size oB)); (case aL => have := LMc2.out; omega); intro v352 w5 ho hb hg hat; rw [← Ny351.out] at ho; have HO353 := Aside0.mk (ho); replace HB := Aside0.mk (hb); clear HO350; clear ho hb hg hat))
  go_ret
  exact ⟨_, oE, oR HO353, oB⟩
 ·rw [if_neg c2] at H
  exact absurd H (by simp)

set_option maxHeartbeats 8000000 in
set_option maxRecDepth 100000 in
theorem slices_Clone_Attr.calls (A0 : Option Addr) (c0 : Nat) (l0 : List (S90)) (r : List (S90)) (w : World) (hr0 : Kd.C k90 w A0 l0.length l0) (hc0 : l0.length ≤ c0) (h : slices_Clone_Attr.f l0 = some r) :
  Calls Try.prog 79 #[.slice A0 l0.length c0] w fun e w' => ∃ v0_ : Value, e = .returned (v0_) ∧ Kd.R k90 90 w' w.heap.size (fun _ => True) v0_ r ∧ Below w.heap.size w w' := by
 rcases A0 with _ | a0_
 ·have hl_ : l0 = [] := by
   rcases Nat.eq_zero_or_pos l0.length with hz_ | hz_
   ·exact List.eq_nil_of_length_eq_zero hz_
   ·obtain ⟨ad_, he_, _⟩ := hr0.2.2 hz_
    cases he_
  subst hl_
  obtain rfl : r = [] := by
   simp [slices_Clone_Attr.f] at h
   exact h
  have hq_ := Lib.run_eql_slice_nil (P := Try.prog) w 38 90 none 0 c0 0 0 (by kernel_rfl)
  go_enter Try.func79, Try.ntmps79
  go_wp2
  go_ret
  exact ⟨_, rfl, Kd.R_nil _ _ _ _ _, Below.refl _ _⟩
 ·exact slices_Clone_Attr.calls_some a0_ c0 l0 r w hr0 hc0 h

/-! ### impl_copyInode: function 43 -/
def impl_copyInode.f (a0_0 : Int) (a0_1 : Int) (a0_2 : Int) (l0_3 : List Int) (l0_4 : List (S82)) (l0_5 : List (S90)) : Option (Int × Int × Int × List Int × (List (S82)) × (List (S90))) := (slices_Clone_byte_byte.f l0_3).bind fun t356 => ((slices_Clone_Ent.f l0_4).bind fun t359 => ((slices_Clone_Attr.f l0_5).bind fun t362 => (some (a0_0, a0_1, a0_2, t356, t359, t362))))
set_option maxHeartbeats 8000000 in
set_option maxRecDepth 100000 in
theorem impl_copyInode.calls (a0_0 : Int) (a0_1 : Int) (a0_2 : Int) (A0_3 : Option Addr) (c0_3 : Nat) (l0_3 : List Int) (A0_4 : Option Addr) (c0_4 : Nat) (l0_4 : List (S82)) (A0_5 : Option Addr) (c0_5 : Nat) (l0_5 : List (S90)) (r1 : Int) (r2 : Int) (r3 : Int) (r4 : List Int) (r5 : List (S82)) (r6 : List (S90)) (w : World) (hr0_3 : Kd.C (Kd.int .u8) w A0_3 l0_3.length l0_3) (hc0_3 : l0_3.length ≤ c0_3) (hr0_4 : Kd.C k82 w A0_4 l0_4.length l0_4) (hc0_4 : l0_4.length ≤ c0_4) (hr0_5 : Kd.C k90 w A0_5 l0_5.length l0_5) (hc0_5 : l0_5.length ≤ c0_5) (h : impl_copyInode.f a0_0 a0_1 a0_2 l0_3 l0_4 l0_5 = some (r1, r2, r3, r4, r5, r6)) :
  Calls Try.prog 43 #[.agg #[.int .i64 a0_0, .int .i64 a0_1, .int .i64 a0_2, .slice A0_3 l0_3.length c0_3, .slice A0_4 l0_4.length c0_4, .slice A0_5 l0_5.length c0_5]] w fun e w' => ∃ v3_ v4_ v5_ : Value, e = .returned (.agg #[.int .i64 r1, .int .i64 r2, .int .i64 r3, v3_, v4_, v5_]) ∧ Kd.R (Kd.int .u8) 5 w' w.heap.size (fun _ => True) v3_ r4 ∧ Kd.R k82 82 w' w.heap.size (fun _ => True) v4_ r5 ∧ Kd.R k90 90 w' w.heap.size (fun _ => True) v5_ r6 ∧ Below w.heap.size w w' := by
 have hu40 := Try.underlying40
 have HR0_3 := Aside0.mk hr0_3
 have HC0_3 := Aside0.mk hc0_3
 clear hr0_3 hc0_3
 have HR0_4 := Aside0.mk hr0_4
 have HC0_4 := Aside0.mk hc0_4
 clear hr0_4 hc0_4
 have HR0_5 := Aside0.mk hr0_5
 have HC0_5 := Aside0.mk hc0_5
 clear hr0_5 hc0_5
 have HB := Aside0.mk (Below.refl w.heap.size w)
 unfold impl_copyInode.f at h
 have H := h
 clear h
 replace H := bA H
 obtain ⟨t356, A2, H⟩ := H
 try dsimp only at H
 replace H := bA H
 obtain ⟨t359, A3, H⟩ := H
 try dsimp only at H
 replace H := bA H
 obtain ⟨t362, A4, H⟩ := H
 try dsimp only at H
 simp only [Option.some.injEq, Prod.mk.injEq] at H
 obtain ⟨rfl, rfl, rfl, rfl, rfl, rfl⟩ := H
 go_enter Try.func43, Try.ntmps43
 go_wp2_with (first | ((with_reducible refine gate_dst (N := 1) rfl ?_); refine bx_ 1 #[.int .i64 a0_0, .int .i64 a0_1, .int .i64 a0_2, .slice A0_3 l0_3.length c0_3, .slice A0_4 l0_4.length c0_4, .slice A0_5 l0_5.length c0_5] 40 ?_; intro gb354 hg w5 hbox hb; have BK354 := Aside0.mk (hbox); have GW354 := gs_ hg; replace HB := Aside0.mk (below_step oB hb); clear hb hbox hg) | ((with_reducible refine gate_dst (N := 2) rfl ?_); refine bx_ 2 #[.int .i64 0, .int .i64 0, .int .i64 0, .slice none 0 0, .slice none 0 0, .slice none 0 0] 40 ?_; intro gb355 hg w6 hbox hb; have BK355 := Aside0.mk (hbox); have GW355 := gs_ hg; have NB354_355 := nl_ hg BK354; have NB355_354 := nr_ hg BK354; replace BK354 := kb_ BK354 hb; replace HB := Aside0.mk (below_step oB hb); clear hb hbox hg; have hnb7 := NB354_355.out; have hnc7 := NB355_354.out; obtain ⟨⟨_, _, _, _, _, _⟩, _, _, _, _, _, _⟩ := z6 BK354) | ((with_reducible refine gate_callee (f := 77) rfl ?_); refine gl_ 5 Try.func77 (slices_Clone_byte_byte.calls _ _ l0_3 t356 _ (kC HR0_3) HC0_3.out A2.out) ?_; rintro e w9 ⟨v357, rfl, ho0, hb⟩; refine ⟨_, rfl, ?_⟩; have HO358 := Aside0.mk (Kd.R_lower ho0 (below_size oB)); replace BK354 := kb_ BK354 hb; replace BK355 := kb_ BK355 hb; replace HB := Aside0.mk (below_step oB hb); obtain ⟨Ao10, co10, eo10⟩ := Kd.R_slice HO358.out; subst eo10; obtain ⟨⟨_, _, _, _, _, _⟩, _, _, _, _, _, _⟩ := z6 BK354) | ((with_reducible refine gate_callee (f := 78) rfl ?_); refine gl_ 9 Try.func78 (slices_Clone_Ent.calls _ _ l0_4 t359 _ ?side1 HC0_4.out A3.out) ?_; (case side1 => exact Kd.C_below HR0_4.out oB); rintro e w12 ⟨v360, rfl, ho0, hb⟩; refine ⟨_, rfl, ?_⟩; have HO361 := Aside0.mk (Kd.R_lower ho0 (below_size oB)); replace HO358 := Aside0.mk (Kd.R_below (by (with_reducible repeat (first | apply Kd.R_alloc | apply Kd.R_drewN | apply Kd.R_drew)); exact (Kd.R_mono (Kd.R_far (p := ⟨gb354, 3, none⟩) (Kd.R_types HO358.out BK354.out (by decide)) (fun _ hk => hk.2) (.slice Ao10 t356.length co10)) (fun _ h_ => h_.1))) hb); replace BK354 := kp_ #[.int .i64 a0_0, .int .i64 a0_1, .int .i64 a0_2, .slice Ao10 t356.length co10, .slice A0_4 l0_4.length c0_4, .slice A0_5 l0_5.length c0_5] BK354 hb; replace BK355 := kb_ BK355 hb; replace HB := Aside0.mk (below_step oB hb); (try clear hk); obtain ⟨Ao13, co13, eo13⟩ := Kd.R_slice HO361.out; subst eo13; obtain ⟨⟨_, _, _, _, _, _⟩, _, _, _, _, _, _⟩ := z6 BK354) | ((with_reducible refine gate_callee (f := 79) rfl ?_); refine gl_ 13 Try.func79 (slices_Clone_Attr.calls _ _ l0_5 t362 _ ?side1 HC0_5.out A4.out) ?_; (case side1 => exact Kd.C_below HR0_5.out oB); rintro e w15 ⟨v363, rfl, ho0, hb⟩; refine ⟨_, rfl, ?_⟩; have HO364 := Aside0.mk (Kd.R_lower ho0 (below_size oB)); replace HO358 := Aside0.mk (Kd.R_below (by (with_reducible repeat (first | apply Kd.R_alloc | apply Kd.R_drewN | apply Kd.R_drew)); exact (Kd.R_mono (Kd.R_far (p := ⟨gb354, 4, none⟩) (Kd.R_types HO358.out BK354.out (by decide)) (fun _ hk => hk.2) (.slice Ao13 t359.length co13)) (fun _ h_ => h_.1))) hb); replace HO361 := Aside0.mk (Kd.R_below (by (with_reducible repeat (first | apply Kd.R_alloc | apply Kd.R_drewN | apply Kd.R_drew)); exact (Kd.R_mono (Kd.R_far (p := ⟨gb354, 4, none⟩) (Kd.R_types HO361.out BK354.out (by decide)) (fun _ hk => hk.2) (.slice Ao13 t359.length co13)) (fun _ h_ => h_.1))) hb); replace BK354 := kp_ #[.int .i64 a0_0, .int .i64 a0_1, .int .i64 a0_2, .slice Ao10 t356.length co10, .slice Ao13 t359.length co13, .slice A0_5 l0_5.length c0_5] BK354 hb; replace BK355 := kb_ BK355 hb; replace HB := Aside0.mk (below_step oB hb); (try clear hk); obtain ⟨Ao16, co16, eo16⟩ := Kd.R_slice HO364.out; subst eo16; obtain ⟨⟨_, _, _, _, _, _⟩, _, _, _, _, _, _⟩ := z6 BK354; obtain ⟨⟨_, _, _, _, _, _⟩, _, _, _, _, _, _⟩ := z6 BK355))
 refine bodyPost_ret (results_cell_row rfl _ _ gb355 40 #[.int .i64 a0_0, .int .i64 a0_1, .int .i64 a0_2, .slice Ao10 t356.length co10, .slice Ao13 t359.length co13, .slice Ao16 t362.length co16] (0, 0) _ rfl (oP BK355) Try.underlying40 rfl (by kernel_rfl)) rfl ?_
 exact ⟨_, _, _, oE, by (with_reducible repeat (first | apply Kd.R_alloc | apply Kd.R_drewN | apply Kd.R_drew)); exact Kd.R_mono (Kd.R_far (p := ⟨gb355, 5, none⟩) (Kd.R_far (p := ⟨gb355, 4, none⟩) (Kd.R_far (p := ⟨gb355, 3, none⟩) (Kd.R_far (p := ⟨gb355, 2, none⟩) (Kd.R_far (p := ⟨gb355, 1, none⟩) (Kd.R_far (p := ⟨gb355, 0, none⟩) (Kd.R_far (p := ⟨gb354, 5, none⟩) (Kd.R_types (Kd.R_types HO358.out BK354.out (by decide)) BK355.out (by decide)) (fun _ hk => hk.1.2) (.slice Ao16 t362.length co16)) (fun _ hk => hk.2) (.int .i64 a0_0)) (fun _ hk => hk.2) (.int .i64 a0_1)) (fun _ hk => hk.2) (.int .i64 a0_2)) (fun _ hk => hk.2) (.slice Ao10 t356.length co10)) (fun _ hk => hk.2) (.slice Ao13 t359.length co13)) (fun _ hk => hk.2) (.slice Ao16 t362.length co16)) (fun _ hk => trivial), by (with_reducible repeat (first | apply Kd.R_alloc | apply Kd.R_drewN | apply Kd.R_drew)); exact Kd.R_mono (Kd.R_far (p := ⟨gb355, 5, none⟩) (Kd.R_far (p := ⟨gb355, 4, none⟩) (Kd.R_far (p := ⟨gb355, 3, none⟩) (Kd.R_far (p := ⟨gb355, 2, none⟩) (Kd.R_far (p := ⟨gb355, 1, none⟩) (Kd.R_far (p := ⟨gb355, 0, none⟩) (Kd.R_far (p := ⟨gb354, 5, none⟩) (Kd.R_types (Kd.R_types HO361.out BK354.out (by decide)) BK355.out (by decide)) (fun _ hk => hk.1.2) (.slice Ao16 t362.length co16)) (fun _ hk => hk.2) (.int .i64 a0_0)) (fun _ hk => hk.2) (.int .i64 a0_1)) (fun _ hk => hk.2) (.int .i64 a0_2)) (fun _ hk => hk.2) (.slice Ao10 t356.length co10)) (fun _ hk => hk.2) (.slice Ao13 t359.length co13)) (fun _ hk => hk.2) (.slice Ao16 t362.length co16)) (fun _ hk => trivial), by (with_reducible repeat (first | apply Kd.R_alloc | apply Kd.R_drewN | apply Kd.R_drew)); exact Kd.R_mono (Kd.R_far (p := ⟨gb355, 5, none⟩) (Kd.R_far (p := ⟨gb355, 4, none⟩) (Kd.R_far (p := ⟨gb355, 3, none⟩) (Kd.R_far (p := ⟨gb355, 2, none⟩) (Kd.R_far (p := ⟨gb355, 1, none⟩) (Kd.R_far (p := ⟨gb355, 0, none⟩) (Kd.R_far (p := ⟨gb354, 5, none⟩) (Kd.R_types (Kd.R_types HO364.out BK354.out (by decide)) BK355.out (by decide)) (fun _ hk => hk.1.2) (.slice Ao16 t362.length co16)) (fun _ hk => hk.2) (.int .i64 a0_0)) (fun _ hk => hk.2) (.int .i64 a0_1)) (fun _ hk => hk.2) (.int .i64 a0_2)) (fun _ hk => hk.2) (.slice Ao10 t356.length co10)) (fun _ hk => hk.2) (.slice Ao13 t359.length co13)) (fun _ hk => hk.2) (.slice Ao16 t362.length co16)) (fun _ hk => trivial), oB⟩

-- NOT PRINTED: function 45 (slices_IndexFunc_Inode)

/-! ### impl_placeOf: function 44 -/
def placeR (ino : Int) : List S40 → Nat → Int
 | [], _ => -1
 | x :: l, i => if x.f0 = ino then (i : Int) else placeR ino l (i + 1)
theorem placeOf1.calls (ino a b c : Int) (A3 A4 A5 : Option Addr) (n3 c3 n4 c4 n5 c5 : Nat) (B : Nat) (W : World) (hB : B < W.heap.size) (hc : W.cell? ⟨B, 0, none⟩ = some (.int .i64 ino)) :
  Calls Try.prog 80 #[.agg #[.int .i64 a, .int .i64 b, .int .i64 c, .slice A3 n3 c3, .slice A4 n4 c4, .slice A5 n5 c5], .pointer (some ⟨B, 0, none⟩)] W fun e w' => e = .returned (.bool (a == ino)) ∧ Below W.heap.size W w' := by
 have hne : B ≠ W.heap.size := by omega
 go_enter Try.func80, Try.ntmps80
 go_wp2
 all_goals (go_ret; exact ⟨by simp_all, (Below.refl _ W).alloc (Nat.le_refl _) _⟩)
theorem placeR_none (ino : Int) (l : List S40) (i : Nat) (h : ∀ x ∈ l, x.f0 ≠ ino) : placeR ino l i = -1 := by
 induction l generalizing i with
 | nil => rfl
 | cons x l ih => rw [placeR, if_neg (h x (List.mem_cons_self ..))]; exact ih (i + 1) (fun y hy => h y (List.mem_cons_of_mem _ hy))
theorem rd40_at (l : List S40) (k : Nat) (h : k < l.length) : rd_T40 l (k : Int) = l[k] := by
 simp [rd_T40, List.getD_eq_getElem?_getD, List.getElem?_eq_getElem h]
theorem placeR_hit (ino : Int) (l : List S40) (k j : Nat) (h : k < l.length) (hit : (rd_T40 l (k : Int)).f0 = ino) : placeR ino (l.drop k) j = (j : Int) := by
 rw [List.drop_eq_getElem_cons h, placeR, if_pos (by rw [← rd40_at l k h]; exact hit)]
theorem placeR_miss (ino : Int) (l : List S40) (k j : Nat) (h : k < l.length) (hit : (rd_T40 l (k : Int)).f0 ≠ ino) : placeR ino (l.drop k) j = placeR ino (l.drop (k + 1)) (j + 1) := by
 rw [List.drop_eq_getElem_cons h, placeR, if_neg (by rw [← rd40_at l k h]; exact hit)]
set_option maxHeartbeats 400000 in
set_option maxRecDepth 100000 in
theorem placeOf2.calls (ino : Int) (A0 : Option Addr) (c0 : Nat) (l : List S40) (B : Nat) (w : World) (hr : k40.C w A0 l.length l) (hB : B < w.heap.size) (hc : w.cell? ⟨B, 0, none⟩ = some (.int .i64 ino)) (hl : l.length ≤ 9223372036854775807) :
  Calls Try.prog 45 #[.slice A0 l.length c0, .func (.func 80) #[] #[.pointer (some ⟨B, 0, none⟩)]] w fun e w' => e = .returned (.int .i64 (placeR ino l 0)) ∧ Below w.heap.size w w' := by
 go_enter Try.func45, Try.ntmps45
 go_wp2
 go_loopg [5, 8] l.length (fun gg _ s8 wr => ∃ kk : Nat, kk ≤ l.length ∧ l.length - kk ≤ gg ∧ s8 = .int .i64 kk ∧ Aside0 (Below w.heap.size w wr) ∧ Aside0 (placeR ino l 0 = placeR ino (l.drop kk) kk))
 case atStart => exact ⟨0, Nat.zero_le _, by omega, rfl, ⟨Below.refl _ w⟩, ⟨rfl⟩⟩
 case round =>
  obtain ⟨kk, hkk, hg, rfl, BW, A⟩ := hrel
  by_cases hlt : kk < l.length
  ·have hltz : (kk : Int) < (l.length : Int) := by omega
   obtain ⟨ad, A3, c3, A4, c4, A5, c5, e0, h0, h1, h2, h3, h4, h5, _⟩ := at_T40 (Kd.C_below hr BW.out) (kk : Int) (by omega) hltz
   cases e0
   rw [Int.toNat_natCast] at h0 h1 h2 h3 h4 h5
   have hBw : B < wr.heap.size := Nat.lt_of_lt_of_le hB BW.out.size
   have hcw : wr.cell? ⟨B, 0, none⟩ = some (.int .i64 ino) := (BW.out.cell (p := ⟨B, 0, none⟩) hB).trans hc
   by_cases hit : (rd_T40 l (kk : Int)).f0 = ino
   ·have hq : ((rd_T40 l (kk : Int)).f0 == ino) = true := by simpa using hit
    go_wp2_with (go_at_call 80; refine (placeOf1.calls ino _ _ _ _ _ _ _ _ _ _ _ _ B wr hBw hcw).mono ?_; rintro e w' ⟨rfl, hb'⟩)
    go_ret
    exact ⟨by rw [A.out, placeR_hit ino l kk kk hlt hit]; rfl, below_then BW.out BW.out.size hb'⟩
   ·have hq : ((rd_T40 l (kk : Int)).f0 == ino) = false := by simpa using hit
    go_wp2_with (go_at_call 80; refine (placeOf1.calls ino _ _ _ _ _ _ _ _ _ _ _ _ B wr hBw hcw).mono ?_; rintro e w' ⟨rfl, hb'⟩)
    go_roundg (l.length - (kk + 1))
    case measure => omega
    case rel => exact ⟨kk + 1, by omega, by omega, by go_num, ⟨below_then BW.out BW.out.size hb'⟩, ⟨by rw [A.out, placeR_miss ino l kk kk hlt hit]⟩⟩
  ·have hltz : ¬ (kk : Int) < (l.length : Int) := by omega
   obtain rfl : kk = l.length := by omega
   go_wp2
   go_ret
   exact ⟨by rw [A.out, List.drop_length]; rfl, BW.out⟩
def impl_placeOf.f (k : Nat) (l0_0 : List S40) (a0_1 a1 : Int) : Option Int := if (l0_0.length : Int) ≤ 9223372036854775807 then some (placeR a1 l0_0 0) else none
set_option maxHeartbeats 400000 in
theorem impl_placeOf.calls (k : Nat) (A0_0 : Option Addr) (c0_0 : Nat) (l0_0 : List S40) (a0_1 a1 : Int) (r : Int) (w : World) (hr0_0 : Kd.C k40 w A0_0 l0_0.length l0_0) (hc0_0 : l0_0.length ≤ c0_0) (h : impl_placeOf.f k l0_0 a0_1 a1 = some r) :
  Calls Try.prog 44 #[.agg #[.slice A0_0 l0_0.length c0_0, .int .i64 a0_1], .int .i64 a1] w fun e w' => e = .returned (.int .i64 r) ∧ Below w.heap.size w w' := by
 unfold impl_placeOf.f at h
 split at h
 case isFalse => cases h
 case isTrue hl =>
 obtain rfl := Option.some.inj h
 clear h
 have hw1 : Below w.heap.size w (w.alloc (.cells #[.slice A0_0 l0_0.length c0_0, .int .i64 a0_1] 34)) := (Below.refl _ w).alloc (Nat.le_refl _) _
 have hw2 : Below w.heap.size w ((w.alloc (.cells #[.slice A0_0 l0_0.length c0_0, .int .i64 a0_1] 34)).alloc (.cells #[.int .i64 a1] 3)) := hw1.alloc (by simp) _
 have hcon := placeOf2.calls a1 A0_0 c0_0 l0_0 (w.heap.size + 1) ((w.alloc (.cells #[.slice A0_0 l0_0.length c0_0, .int .i64 a0_1] 34)).alloc (.cells #[.int .i64 a1] 3)) (Kd.C_below hr0_0 hw2) (by simp) (by simp) (by omega)
 clear hr0_0 hw1
 go_enter Try.func44, Try.ntmps44
 go_wp2_with (go_at_call 45; refine hcon.mono ?_; rintro e w' ⟨rfl, hb'⟩)
 go_ret
 exact ⟨rfl, below_then hw2 (by simp only [World.size_alloc]; omega) hb'⟩
/-! ### impl_InodeAt: function 27 -/
def impl_InodeAt.f (k : Nat) (l0_0 : List (S40)) (a0_1 : Int) (a1 : Int) : Option (Int × Int × Int × List Int × (List (S82)) × (List (S90)) × Bool) := (impl_placeOf.f k l0_0 a0_1 a1).bind fun t367 => (if t367 < 0 then (some (0, 0, 0, ([] : List Int), ([] : List (S82)), ([] : List (S90)), false)) else (if 0 ≤ t367 then (if t367 < (l0_0.length : Int) then ((impl_copyInode.f ((rd_T40 l0_0 t367).f0) ((rd_T40 l0_0 t367).f1) ((rd_T40 l0_0 t367).f2) ((rd_T40 l0_0 t367).f3) ((rd_T40 l0_0 t367).f4) ((rd_T40 l0_0 t367).f5)).bind fun bt369 => (some (bt369.1, bt369.2.1, bt369.2.2.1, bt369.2.2.2.1, bt369.2.2.2.2.1, bt369.2.2.2.2.2, true))) else (none)) else (none)))
set_option maxHeartbeats 8000000 in
set_option maxRecDepth 100000 in
theorem impl_InodeAt.calls (k : Nat) (A0_0 : Option Addr) (c0_0 : Nat) (l0_0 : List (S40)) (a0_1 : Int) (a1 : Int) (r1 : Int) (r2 : Int) (r3 : Int) (r4 : List Int) (r5 : List (S82)) (r6 : List (S90)) (r7 : Bool) (w : World) (hr0_0 : Kd.C k40 w A0_0 l0_0.length l0_0) (hc0_0 : l0_0.length ≤ c0_0) (h : impl_InodeAt.f k l0_0 a0_1 a1 = some (r1, r2, r3, r4, r5, r6, r7)) :
  Calls Try.prog 27 #[.agg #[.slice A0_0 l0_0.length c0_0, .int .i64 a0_1], .int .i64 a1] w fun e w' => ∃ v3_ v4_ v5_ : Value, e = .returned (.tuple #[.agg #[.int .i64 r1, .int .i64 r2, .int .i64 r3, v3_, v4_, v5_], .bool r7]) ∧ Kd.R (Kd.int .u8) 5 w' w.heap.size (fun _ => True) v3_ r4 ∧ Kd.R k82 82 w' w.heap.size (fun _ => True) v4_ r5 ∧ Kd.R k90 90 w' w.heap.size (fun _ => True) v5_ r6 ∧ Below w.heap.size w w' := by
 have hu34 := Try.underlying34
 have hu40 := Try.underlying40
 have HR0_0 := Aside0.mk hr0_0
 have HC0_0 := Aside0.mk hc0_0
 clear hr0_0 hc0_0
 have HB := Aside0.mk (Below.refl w.heap.size w)
 unfold impl_InodeAt.f at h
 have H := h
 clear h
 replace H := bA H
 obtain ⟨t367, A3, H⟩ := H
 try dsimp only at H
 replace H := itD H
 rcases H with ⟨c4b0, H⟩ | ⟨c4b0, H⟩
 ·simp only [Option.some.injEq, Prod.mk.injEq] at H
  obtain ⟨rfl, rfl, rfl, rfl, rfl, rfl, rfl⟩ := H
  go_enter Try.func27, Try.ntmps27
  go_wp2_with (first | ((with_reducible refine gate_dst (N := 2) rfl ?_); refine bx_ 2 #[.slice A0_0 l0_0.length c0_0, .int .i64 a0_1] 34 ?_; intro gb365 hg w5 hbox hb; have BK365 := Aside0.mk (hbox); have GW365 := gs_ hg; replace HB := Aside0.mk (below_step oB hb); clear hb hbox hg) | ((with_reducible refine gate_dst (N := 4) rfl ?_); refine bx_ 4 #[.int .i64 0, .int .i64 0, .int .i64 0, .slice none 0 0, .slice none 0 0, .slice none 0 0] 40 ?_; intro gb366 hg w6 hbox hb; have BK366 := Aside0.mk (hbox); have GW366 := gs_ hg; have NB365_366 := nl_ hg BK365; have NB366_365 := nr_ hg BK365; replace BK365 := kb_ BK365 hb; replace HB := Aside0.mk (below_step oB hb); clear hb hbox hg; have hnb7 := NB365_366.out; have hnc7 := NB366_365.out; obtain ⟨⟨_, _⟩, _, _⟩ := z2 BK365) | ((with_reducible refine gate_callee (f := 44) rfl ?_); refine gl_ 9 Try.func44 (impl_placeOf.calls k _ _ l0_0 a0_1 a1 t367 _ (kC HR0_0) HC0_0.out A3.out) ?_; rintro e w9 ⟨rfl, hb⟩; refine ⟨_, rfl, ?_⟩; replace BK365 := kb_ BK365 hb; replace BK366 := kb_ BK366 hb; replace HB := Aside0.mk (below_step oB hb); obtain ⟨⟨_, _, _, _, _, _⟩, _, _, _, _, _, _⟩ := z6 BK366))
  refine bodyPost_ret (results_ct rfl _ _ gb366 40 #[.int .i64 0, .int .i64 0, .int .i64 0, .slice none 0 0, .slice none 0 0, .slice none 0 0] (0, 0) _ rfl (oP BK366) Try.underlying40 rfl (by kernel_rfl)) rfl ?_
  exact ⟨_, _, _, oE, by first | exact Kd.R_nil _ _ _ _ _ | exact Kd.N_nil _ _ _ _ _ | exact Kd.V_nil _ _ _ _ _ | exact Kd.Q_nil _ _ _ _ _ | exact Kd.S_nil _ _ _ _ _, by first | exact Kd.R_nil _ _ _ _ _ | exact Kd.N_nil _ _ _ _ _ | exact Kd.V_nil _ _ _ _ _ | exact Kd.Q_nil _ _ _ _ _ | exact Kd.S_nil _ _ _ _ _, by first | exact Kd.R_nil _ _ _ _ _ | exact Kd.N_nil _ _ _ _ _ | exact Kd.V_nil _ _ _ _ _ | exact Kd.Q_nil _ _ _ _ _ | exact Kd.S_nil _ _ _ _ _, oB⟩
 ·replace H := itD H
  rcases H with ⟨c11b0, H⟩ | ⟨c11b0, H⟩
  ·replace H := itD H
   rcases H with ⟨c12b0, H⟩ | ⟨c12b0, H⟩
   ·replace H := bA H
    obtain ⟨⟨t369, t370, t371, t372, t375, t378⟩, A13, H⟩ := H
    try dsimp only at H
    simp only [Option.some.injEq, Prod.mk.injEq] at H
    obtain ⟨rfl, rfl, rfl, rfl, rfl, rfl, rfl⟩ := H
    go_enter Try.func27, Try.ntmps27
    go_wp2_with (first | ((with_reducible refine gate_dst (N := 2) rfl ?_); refine bx_ 2 #[.slice A0_0 l0_0.length c0_0, .int .i64 a0_1] 34 ?_; intro gb365 hg w14 hbox hb; have BK365 := Aside0.mk (hbox); have GW365 := gs_ hg; replace HB := Aside0.mk (below_step oB hb); clear hb hbox hg) | ((with_reducible refine gate_dst (N := 4) rfl ?_); refine bx_ 4 #[.int .i64 0, .int .i64 0, .int .i64 0, .slice none 0 0, .slice none 0 0, .slice none 0 0] 40 ?_; intro gb366 hg w15 hbox hb; have BK366 := Aside0.mk (hbox); have GW366 := gs_ hg; have NB365_366 := nl_ hg BK365; have NB366_365 := nr_ hg BK365; replace BK365 := kb_ BK365 hb; replace HB := Aside0.mk (below_step oB hb); clear hb hbox hg; have hnb16 := NB365_366.out; have hnc16 := NB366_365.out; obtain ⟨⟨_, _⟩, _, _⟩ := z2 BK365) | ((with_reducible refine gate_callee (f := 44) rfl ?_); refine gl_ 9 Try.func44 (impl_placeOf.calls k _ _ l0_0 a0_1 a1 t367 _ (kC HR0_0) HC0_0.out A3.out) ?_; rintro e w18 ⟨rfl, hb⟩; refine ⟨_, rfl, ?_⟩; replace BK365 := kb_ BK365 hb; replace BK366 := kb_ BK366 hb; replace HB := Aside0.mk (below_step oB hb); obtain ⟨⟨_, _⟩, _, _⟩ := z2 BK365; have p368 : (0 ≤ (t367 : Int)) = True := oT; have q368 : (t367 < (l0_0.length : Int)) = True := oT; obtain ⟨ad368, A368_3, c368_3, A368_4, c368_4, A368_5, c368_5, e368, hx368_0, hx368_1, hx368_2, hx368_3, hx368_4, hx368_5, hl368_3, hi368_3, hl368_4, hi368_4, hl368_5, hi368_5⟩ := at_T40 HR0_0.out t367 oa oa; cases e368; replace hx368_0 := cB HB hx368_0; replace hx368_1 := cB HB hx368_1; replace hx368_2 := cB HB hx368_2; replace hx368_3 := cB HB hx368_3; replace hx368_4 := cB HB hx368_4; replace hx368_5 := cB HB hx368_5; have HR368_3 := Aside0.mk hi368_3; have HC368_3 := Aside0.mk hl368_3; clear hi368_3 hl368_3; have HR368_4 := Aside0.mk hi368_4; have HC368_4 := Aside0.mk hl368_4; clear hi368_4 hl368_4; have HR368_5 := Aside0.mk hi368_5; have HC368_5 := Aside0.mk hl368_5; clear hi368_5 hl368_5) | ((with_reducible refine gate_callee (f := 43) rfl ?_); refine gl_ 18 Try.func43 (impl_copyInode.calls ((rd_T40 l0_0 t367).f0) ((rd_T40 l0_0 t367).f1) ((rd_T40 l0_0 t367).f2) _ _ ((rd_T40 l0_0 t367).f3) _ _ ((rd_T40 l0_0 t367).f4) _ _ ((rd_T40 l0_0 t367).f5) t369 t370 t371 t372 t375 t378 _ (kC HR368_3) HC368_3.out (kC HR368_4) HC368_4.out (kC HR368_5) HC368_5.out A13.out) ?_; rintro e w20 ⟨v373, v376, v379, rfl, ho0, ho1, ho2, hb⟩; refine ⟨_, rfl, ?_⟩; have HO374 := Aside0.mk (Kd.R_lower ho0 (below_size oB)); have HO377 := Aside0.mk (Kd.R_lower ho1 (below_size oB)); have HO380 := Aside0.mk (Kd.R_lower ho2 (below_size oB)); replace BK365 := kb_ BK365 hb; replace BK366 := kb_ BK366 hb; replace HB := Aside0.mk (below_step oB hb); (try clear ho1); (try clear ho2); obtain ⟨⟨_, _, _, _, _, _⟩, _, _, _, _, _, _⟩ := z6 BK366; obtain ⟨Ao22, co22, eo22⟩ := Kd.R_slice HO374.out; subst eo22; obtain ⟨Ao23, co23, eo23⟩ := Kd.R_slice HO377.out; subst eo23; obtain ⟨Ao24, co24, eo24⟩ := Kd.R_slice HO380.out; subst eo24))
    refine bodyPost_ret (results_ct rfl _ _ gb366 40 #[.int .i64 t369, .int .i64 t370, .int .i64 t371, .slice Ao22 t372.length co22, .slice Ao23 t375.length co23, .slice Ao24 t378.length co24] (0, 0) _ rfl (oP BK366) Try.underlying40 rfl (by kernel_rfl)) rfl ?_
    exact ⟨_, _, _, oE, by (with_reducible repeat (first | apply Kd.R_alloc | apply Kd.R_drewN | apply Kd.R_drew)); exact Kd.R_mono (Kd.R_far (p := ⟨gb366, 5, none⟩) (Kd.R_far (p := ⟨gb366, 4, none⟩) (Kd.R_far (p := ⟨gb366, 3, none⟩) (Kd.R_far (p := ⟨gb366, 2, none⟩) (Kd.R_far (p := ⟨gb366, 1, none⟩) (Kd.R_far (p := ⟨gb366, 0, none⟩) (Kd.R_types HO374.out BK366.out (by decide)) (fun _ hk => hk.2) (.int .i64 t369)) (fun _ hk => hk.2) (.int .i64 t370)) (fun _ hk => hk.2) (.int .i64 t371)) (fun _ hk => hk.2) (.slice Ao22 t372.length co22)) (fun _ hk => hk.2) (.slice Ao23 t375.length co23)) (fun _ hk => hk.2) (.slice Ao24 t378.length co24)) (fun _ hk => trivial), by (with_reducible repeat (first | apply Kd.R_alloc | apply Kd.R_drewN | apply Kd.R_drew)); exact Kd.R_mono (Kd.R_far (p := ⟨gb366, 5, none⟩) (Kd.R_far (p := ⟨gb366, 4, none⟩) (Kd.R_far (p := ⟨gb366, 3, none⟩) (Kd.R_far (p := ⟨gb366, 2, none⟩) (Kd.R_far (p := ⟨gb366, 1, none⟩) (Kd.R_far (p := ⟨gb366, 0, none⟩) (Kd.R_types HO377.out BK366.out (by decide)) (fun _ hk => hk.2) (.int .i64 t369)) (fun _ hk => hk.2) (.int .i64 t370)) (fun _ hk => hk.2) (.int .i64 t371)) (fun _ hk => hk.2) (.slice Ao22 t372.length co22)) (fun _ hk => hk.2) (.slice Ao23 t375.length co23)) (fun _ hk => hk.2) (.slice Ao24 t378.length co24)) (fun _ hk => trivial), by (with_reducible repeat (first | apply Kd.R_alloc | apply Kd.R_drewN | apply Kd.R_drew)); exact Kd.R_mono (Kd.R_far (p := ⟨gb366, 5, none⟩) (Kd.R_far (p := ⟨gb366, 4, none⟩) (Kd.R_far (p := ⟨gb366, 3, none⟩) (Kd.R_far (p := ⟨gb366, 2, none⟩) (Kd.R_far (p := ⟨gb366, 1, none⟩) (Kd.R_far (p := ⟨gb366, 0, none⟩) (Kd.R_types HO380.out BK366.out (by decide)) (fun _ hk => hk.2) (.int .i64 t369)) (fun _ hk => hk.2) (.int .i64 t370)) (fun _ hk => hk.2) (.int .i64 t371)) (fun _ hk => hk.2) (.slice Ao22 t372.length co22)) (fun _ hk => hk.2) (.slice Ao23 t375.length co23)) (fun _ hk => hk.2) (.slice Ao24 t378.length co24)) (fun _ hk => trivial), oB⟩
   ·cases H
  ·cases H

/-! ### slices_Contains_int_int: function 58 -/
theorem rSpotC {α : Type} {d : Kd α} {e base n c : Nat} {ok : Nat → Prop} {w : World} {A : Option Addr} {xs : List α} (h : d.R e w base ok (.slice A n c) xs) : ∀ ad, A = some ad → 0 < xs.length → ad.spot = none := by
 intro ad hA _
 subst hA
 obtain ⟨g, rfl⟩ := Kd.R_head h
 rfl
def slices_Contains_int_int.f (l : List Int) (x : Int) : Option Bool := if l.length ≤ 9223372036854775807 then some (l.contains x) else none
theorem slices_Contains_int_int.calls (A0 : Option Addr) (c0 : Nat) (l0 : List Int) (a1 : Int) (r : Bool) (w : World) (hr0 : Kd.C (Kd.int .i64) w A0 l0.length l0) (hc0 : l0.length ≤ c0) (h : slices_Contains_int_int.f l0 a1 = some r) (hA : ∀ ad, A0 = some ad → 0 < l0.length → ad.spot = none := by first | exact rSpotC (by first | (with_reducible assumption) | exact Aside0.out (by with_reducible assumption))) :
  Calls Try.prog 58 #[.slice A0 l0.length c0, .int .i64 a1] w fun e w' => e = .returned (.bool r) ∧ Below w.heap.size w w' := by
 unfold slices_Contains_int_int.f at h
 split at h
 case isFalse => cases h
 case isTrue hl =>
 obtain rfl := Option.some.inj h
 by_cases h0 : l0.length = 0
 ·obtain rfl := List.eq_nil_of_length_eq_zero h0
  exact (Any.slices_Contains_int_empty Try.lays107 A0 c0 a1 w).mono fun e w' ⟨he, hw⟩ => ⟨he, hw ▸ Below.refl _ _⟩
 ·obtain ⟨ad, e0, _⟩ := Kd.at_int hr0 0 (by omega) (by omega)
  subst e0
  have hsp := hA ad rfl (by omega)
  obtain ⟨bk, o, sp⟩ := ad
  have hsp : sp = none := hsp
  subst hsp
  refine (Any.slices_Contains_int Try.lays107 bk o l0.length c0 l0 a1 w (Nat.le_refl _) hl (fun j hj => ?_)).mono fun e w' ⟨he, hw⟩ => ⟨by rw [he, List.take_length], hw ▸ Below.refl _ _⟩
  obtain ⟨ad', e', hx⟩ := Kd.at_int hr0 (j : Int) (by omega) (by omega)
  injection e' with e'
  subst e'
  rw [Int.toNat_natCast, Addr.add_lit] at hx
  rw [hx]
  simp [rd]
/-! ### slices_Sort_int_int: function 59 -/
def sortI (l : List Int) : List Int := l.mergeSort fun x y => decide (x ≤ y)
theorem sortI_length (l : List Int) : (sortI l).length = l.length := List.length_mergeSort ..
/-- slices.Sort of a row of the call's own: it is in order behind it. -/
theorem sortOwn.calls (A : Option Addr) (c b0 : Nat) (ok : Nat → Prop) (l : List Int) (w : World) (ho : Kd.R (Kd.int .i64) 3 w b0 ok (.slice A l.length c) l) (hl : l.length < 4611686018427387904) :
  Calls Try.prog 59 #[.slice A l.length c] w fun e w' => e = .returned (.tuple #[]) ∧ Kd.R (Kd.int .i64) 3 w' b0 ok (.slice A l.length c) (sortI l) ∧ w.grownBy w' (Value.slice A l.length c).ownBlock := by
 have ho' := ho
 obtain ⟨hok, inner, ⟨hil, hown⟩, hrep⟩ := ho
 rcases hown with ⟨he, h0⟩ | ⟨g, cap, cur, he, hbg, hh, hnc, hcm, hcs, hin⟩
 ·obtain rfl := List.eq_nil_of_length_eq_zero h0
  refine (Any.slices_Sort_int_none Try.lays189 A c w).mono fun e w' ⟨he, hw⟩ => ⟨he, ?_, ?_⟩
  ·subst hw; rw [show sortI [] = [] from List.eq_nil_of_length_eq_zero (by rw [sortI_length]; rfl)]; exact ho'
  ·subst hw; exact ⟨rfl, rfl, rfl, Nat.le_refl _, fun _ _ _ => rfl⟩
 ·injection he with ha _ hc
  subst ha; subst hc
  rw [show (Kd.int .i64).sz = 1 from rfl] at hil hcs hin hrep
  have hen := Kd.reps_encs (enc := Value.int .i64) hrep
  rw [hen, Nat.mul_one] at hin
  have hgw : g < w.heap.size := blk_lt hh
  refine (Any.slices_Sort_int Try.lays189 g 0 c l w (holds_of_blockI hh hin) hgw hl).mono fun e w' ⟨he, n, os, hw⟩ => ?_
  subst hw
  refine ⟨he, ⟨fun k hk => hok k hk, (sortI l).map (Value.int .i64), ?_, ?_⟩, grownBy_sortedI _⟩
  ·rw [sortI_length]
   exact ownsRow_sortedI (ss := l) (sortI_length l) hbg hh hnc hcm hcs
  ·exact Kd.reps_scalar (enc := Value.int .i64) (sortI l)
/-! ### impl_Reached: function 19 -/
mutual
def impl_Reached.l0 : Nat → List Int → List Int → List (S40) → Int → Option (List Int)
 | 0, _, _, _, _ => none
 | k + 1, x3, x4, x382000, x382001 => if (x4.length : Int) > 0 then (if 0 < (x4.length : Int) then (if 1 ≤ (x4.length : Int) then ((some (x4.drop (1 : Int).toNat : List Int)).bind fun y389 => ((impl_InodeAt.f k x382000 x382001 (rd x4 0)).bind fun bt392 => (if bt392.2.2.2.2.2.2 = true then ((slices_Contains_int_int.f x3 (rd x4 0)).bind fun t406 => (impl_Reached.j1 k x3 y389 (rd x4 0) t406 x382000 x382001 bt392.1 bt392.2.1 bt392.2.2.1 bt392.2.2.2.1 bt392.2.2.2.2.1 bt392.2.2.2.2.2.1)) else (impl_Reached.j1 k x3 y389 (rd x4 0) true x382000 x382001 bt392.1 bt392.2.1 bt392.2.2.1 bt392.2.2.2.1 bt392.2.2.2.2.1 bt392.2.2.2.2.2.1)))) else (none)) else (none)) else (if x3.length < 4611686018427387904 then some (sortI x3) else none)
def impl_Reached.j1 : Nat → List Int → List Int → Int → Bool → List (S40) → Int → Int → Int → Int → List Int → List (S82) → List (S90) → Option (List Int)
 | 0, _, _, _, _, _, _, _, _, _, _, _, _ => none
 | k + 1, x3, x4, x5, x32, x382000, x382001, x406000, x406001, x406002, x406003, x406004, x406005 => if x32 = true then (impl_Reached.l0 k x3 x4 x382000 x382001) else (if x3.length < 17592186044416 then ((some (x3 ++ [x5] : List Int)).bind fun y407 => (if x406001 = 2 then (impl_Reached.l1 k y407 x4 x406004 (x406004.length : Int) 0 x382000 x382001) else (impl_Reached.l0 k y407 x4 x382000 x382001))) else (none))
def impl_Reached.l1 : Nat → List Int → List Int → List (S82) → Int → Int → List (S40) → Int → Option (List Int)
 | 0, _, _, _, _, _, _, _ => none
 | k + 1, x3, x4, x41, x42, x43, x382000, x382001 => if x43 < x42 then (if 0 ≤ x43 then (if x43 < (x41.length : Int) then (if x4.length < 17592186044416 then (impl_Reached.l1 k x3 (x4 ++ [(rd_T82 x41 x43).f1]) x41 x42 (wrap64 (x43 + 1)) x382000 x382001) else (none)) else (none)) else (none)) else (impl_Reached.l0 k x3 x4 x382000 x382001)
end
def impl_Reached.f (k : Nat) (l0_0 : List (S40)) (a0_1 : Int) : Option (List Int) := impl_Reached.l0 k (([] : List Int)) (([1] : List Int)) l0_0 a0_1
set_option maxHeartbeats 8000000 in
set_option maxRecDepth 100000 in
theorem impl_Reached.calls (k : Nat) (A0_0 : Option Addr) (c0_0 : Nat) (l0_0 : List (S40)) (a0_1 : Int) (r : List Int) (w : World) (hr0_0 : Kd.C k40 w A0_0 l0_0.length l0_0) (hc0_0 : l0_0.length ≤ c0_0) (h : impl_Reached.f k l0_0 a0_1 = some r) :
  Calls Try.prog 19 #[.agg #[.slice A0_0 l0_0.length c0_0, .int .i64 a0_1]] w fun e w' => ∃ v0_ : Value, e = .returned (v0_) ∧ Kd.R (Kd.int .i64) 3 w' w.heap.size (fun _ => True) v0_ r ∧ Below w.heap.size w w' := by
 have hu34 := Try.underlying34
 have hu40 := Try.underlying40
 have hu82 := Try.underlying82
 have HR0_0 := Aside0.mk hr0_0
 have HC0_0 := Aside0.mk hc0_0
 clear hr0_0 hc0_0
 have HB := Aside0.mk (Below.refl w.heap.size w)
 unfold impl_Reached.f at h
 have H := h
 clear h
 obtain ⟨y382, hy382⟩ : ∃ y_ : List Int, y_ = (([] : List Int)) := ⟨_, rfl⟩
 replace H : (impl_Reached.l0 k y382 (([1] : List Int)) l0_0 a0_1) = some r := by first | (rw [hy382]; with_reducible exact H) | (have H2_ := (Option.bind_some _ _).symm.trans H; rw [hy382]; with_reducible exact H2_) | (have H2_ := (Option.bind_some _ _).symm.trans H; with_reducible exact H2_) | with_reducible exact H | (rw [hy382]; exact H) | exact H
 have Ny382 := Aside0.mk hy382
 clear hy382
 obtain ⟨y385, hy385⟩ : ∃ y_ : List Int, y_ = (([1] : List Int)) := ⟨_, rfl⟩
 replace H : (impl_Reached.l0 k y382 y385 l0_0 a0_1) = some r := by first | (rw [hy385]; with_reducible exact H) | (have H2_ := (Option.bind_some _ _).symm.trans H; rw [hy385]; with_reducible exact H2_) | (have H2_ := (Option.bind_some _ _).symm.trans H; with_reducible exact H2_) | with_reducible exact H | (rw [hy385]; exact H) | exact H
 have Ny385 := Aside0.mk hy385
 clear hy385
 have H' := Aside0.mk H
 clear H
 go_enter Try.func19, Try.ntmps19
 go_wp2_with (first | ((with_reducible refine gate_dst (N := 1) rfl ?_); refine bx_ 1 #[.slice A0_0 l0_0.length c0_0, .int .i64 a0_1] 34 ?_; intro gb381 hg w2 hbox hb; have BK381 := Aside0.mk (hbox); have GW381 := gs_ hg; replace HB := Aside0.mk (below_step oB hb); clear hb hbox hg) | ((with_reducible refine gate_dst (N := 10) rfl ?_); refine Kd.R_lit (Kd.int .i64) _ 3 ?hg (N := 10) ?hd (xs := ([] : List Int)) (inner := []) (ok := fun _ => True) (okp := fun _ => True) ?hr ?hp (fun _ hk => hk) trivial (Below.refl _ _) (Nat.le_refl _) (by simp) ?_; (case hd => rfl); (case hg => rfl); (case hr => first | (go_simp; done) | (go_simp; rfl)); (case hp => exact (Reps.none _ _)); intro v383 w3 ho4 hb hg_ hnew_; clear hg_ hnew_; (first | rw [← Ny382.out] at ho4 | (simp only [Int.reduceToNat] at ho4; rw [← Ny382.out] at ho4)); have HO384 := Aside0.mk (Kd.R_lower ho4 (below_size oB)); replace BK381 := kb_ BK381 hb; replace HB := Aside0.mk (below_step oB hb); clear hb ho4) | ((with_reducible refine gate_dst (N := 11) rfl ?_); refine Kd.R_lit (Kd.int .i64) _ 3 ?hg (N := 11) ?hd (xs := ([1] : List Int)) (inner := [.int .i64 1]) (ok := fun _ => True) (okp := fun _ => True) ?hr ?hp (fun _ hk => hk) trivial (Below.refl _ _) (Nat.le_refl _) (by simp) ?_; (case hd => rfl); (case hg => rfl); (case hr => first | (go_simp; done) | (go_simp; rfl)); (case hp => exact (Reps.one (show Kd.M (Kd.int .i64) _ _ _ 1 [.int .i64 1] from rfl) (Reps.none _ _))); intro v386 w5 ho6 hb hg_ hnew_; clear hg_ hnew_; (first | rw [← Ny385.out] at ho6 | (simp only [Int.reduceToNat] at ho6; rw [← Ny385.out] at ho6)); have HO387 := Aside0.mk (Kd.R_lower (Kd.R_new' ho6 (kl_ HO384)) (below_size oB)); replace HO384 := ke_ HO384 ho6 hb; replace BK381 := kb_ BK381 hb; replace HB := Aside0.mk (below_step oB hb); clear hb ho6))
 go_loopg [3, 4] k (fun kq v3 v4 w' => ∃ (x3_1 : List Int) (x4_1 : List Int), Aside0 (impl_Reached.l0 kq x3_1 x4_1 l0_0 a0_1 = some r) ∧ Aside0 (kq ≤ k) ∧ Aside0 (Kd.R (Kd.int .i64) 3 w' w.heap.size (fun k_ => some k_ ≠ (v4 : Value).ownBlock) v3 x3_1) ∧ Aside0 (Kd.Q (Kd.int .i64) 3 w' w.heap.size (fun k_ => some k_ ≠ (v3 : Value).ownBlock) v4 x4_1) ∧ Aside0 (w'.heap[gb381]? = some (.cells #[(.slice A0_0 l0_0.length c0_0), .int .i64 a0_1] 34 (0, 0))) ∧ Aside0 (Below w.heap.size w w'))
 case atStart => exact ⟨(y382), (y385), H', ⟨Nat.le_refl _⟩, ⟨by (with_reducible repeat (first | apply Kd.R_alloc | apply Kd.R_drewN | apply Kd.R_drew)); exact Kd.R_mono HO384.out (fun _ hk => hk.2)⟩, ⟨Kd.Q_of_R (by (with_reducible repeat (first | apply Kd.R_alloc | apply Kd.R_drewN | apply Kd.R_drew)); exact Kd.R_mono HO387.out (fun _ hk => hk.2))⟩, ⟨oF BK381⟩, ⟨oB⟩⟩
 case round =>
  clear H'
  obtain ⟨x3_1, x4_1, HA, HK1, HO_3, HO_4, BK381, HB⟩ := hrel
  cases gk with
  | zero => exact absurd HA.out (by simp [impl_Reached.l0])
  | succ k1 =>
   have H := HA.out
   clear HA
   simp only [impl_Reached.l0] at H
   by_cases c7 : (x4_1.length : Int) > 0
   ·rw [if_pos c7] at H
    have c7b0 : decide (0 < (x4_1.length : Int)) = true := decide_eq_true c7
    have c7b1 : decide (0 < x4_1.length) = true := decide_eq_true (by omega)
    clear c7
    by_cases c8 : 0 < (x4_1.length : Int)
    ·rw [if_pos c8] at H
     have c8b0 : decide (0 < (x4_1.length : Int)) = true := decide_eq_true c8
     have c8b1 : decide (0 < x4_1.length) = true := decide_eq_true (by omega)
     clear c8
     by_cases c9 : 1 ≤ (x4_1.length : Int)
     ·rw [if_pos c9] at H
      have c9b0 := eq_true c9
      have c9b1 : decide (1 ≤ (x4_1.length : Int)) = true := decide_eq_true c9
      clear c9
      obtain ⟨y389, hy389⟩ : ∃ y_ : List Int, y_ = (x4_1.drop (1 : Int).toNat) := ⟨_, rfl⟩
      replace H : ((impl_InodeAt.f k1 l0_0 a0_1 (rd x4_1 0)).bind fun bt392 => (if bt392.2.2.2.2.2.2 = true then ((slices_Contains_int_int.f x3_1 (rd x4_1 0)).bind fun t406 => (impl_Reached.j1 k1 x3_1 y389 (rd x4_1 0) t406 l0_0 a0_1 bt392.1 bt392.2.1 bt392.2.2.1 bt392.2.2.2.1 bt392.2.2.2.2.1 bt392.2.2.2.2.2.1)) else (impl_Reached.j1 k1 x3_1 y389 (rd x4_1 0) true l0_0 a0_1 bt392.1 bt392.2.1 bt392.2.2.1 bt392.2.2.2.1 bt392.2.2.2.2.1 bt392.2.2.2.2.2.1))) = some r := by first | (rw [hy389]; with_reducible exact H) | (have H2_ := (Option.bind_some _ _).symm.trans H; rw [hy389]; with_reducible exact H2_) | (have H2_ := (Option.bind_some _ _).symm.trans H; with_reducible exact H2_) | with_reducible exact H | (rw [hy389]; exact H) | exact H
      have Ny389 := Aside0.mk hy389
      clear hy389
      replace H := bA H
      obtain ⟨⟨t392, t393, t394, t395, t398, t401, t404⟩, A10, H⟩ := H
      try dsimp only at H
      have HC11 := Aside0.mk H
      clear H
      obtain ⟨Ao12, co12, eo12, _⟩ := Kd.Q_slice HO_4.out
      subst eo12
      have p388 : 0 ≤ (0 : Int) := (by omega)
      have q388 : 0 < (x4_1.length : Int) := oa
      obtain ⟨ad388, e388, hx388_0⟩ := Kd.at_int (Kd.Q_reads' HO_4.out).2.2 0 p388 q388
      cases e388
      have qi388 : (0 < x4_1.length) = True := eq_true (by omega)
      (try rw [show ((0 : Int)).toNat = 0 from rfl] at hx388_0)
      (try rw [Addr.add_zero'] at hx388_0)
      replace p388 := eq_true p388
      replace q388 := eq_true q388
      have q13 : (1 : Int) ≤ ((x4_1.length : Int) : Int) := oa
      obtain ⟨i013, hi013, _, hsz13, _⟩ := info_parts info3
      have hcut13 := cut_from (P := Try.prog) 47 3 .i64 Try.underlying47 hi013 1 hsz13 (some ad388) x4_1.length co12 1 (by omega) q13
      have hr13 := Kd.Q_drop (k := (1 : Int).toNat) HO_4.out (by omega)
      obtain ⟨A13, hA13⟩ : ∃ A1, A1 = (if co12 = (1 : Int).toNat then (some ad388) else ((some ad388) : Option Addr).map (·.add ((1 : Int).toNat * 1))) := ⟨_, rfl⟩
      obtain ⟨c13, hc13⟩ : ∃ c1, c1 = co12 - (1 : Int).toNat := ⟨_, rfl⟩
      have hy13 : y389.length = x4_1.length - (1 : Int).toNat := (by rw [Ny389.out, List.length_drop])
      rw [← Ny389.out] at hr13
      rw [← hy13, ← hA13, ← hc13] at hcut13
      replace hr13 : Kd.Q (Kd.int .i64) 3 wr w.heap.size (fun k_ => some k_ ≠ (u3 : Value).ownBlock) (.slice A13 y389.length c13) y389 := (by rw [hA13, hc13, hy13]; exact hr13)
      have HE13 : Aside0 ((Value.slice A13 y389.length c13).ownBlock = (.slice (some ad388) x4_1.length co12 : Value).ownBlock) := ⟨by rw [hA13]; split <;> (cases ((some ad388) : Option Addr) <;> rfl)⟩
      clear hy13 hi013 hsz13 HO_4 hA13 hc13
      have HO391 := Aside0.mk hr13
      clear hr13
      replace q13 := eq_true q13
      have n_ := Aside0.mk (Kd.R_mono (ok' := fun k_ => some k_ ≠ (.slice A13 y389.length c13 : Value).ownBlock) HO_3.out (fun k_ hk => (by rw [HE13.out]; exact hk)))
      clear HO_3
      have HO_3 := n_
      clear n_
      obtain ⟨⟨_, _⟩, _, _⟩ := z2 BK381
      go_upto_region 7 with (first | ((with_reducible refine gate_callee (f := 27) rfl ?_); refine gl_ 23 Try.func27 (impl_InodeAt.calls k1 _ _ l0_0 a0_1 (rd x4_1 0) t392 t393 t394 t395 t398 t401 t404 _ (kC HR0_0) HC0_0.out A10.out) ?_; rintro e w15 ⟨v396, v399, v402, rfl, ho0, ho1, ho2, hb⟩; refine ⟨_, rfl, ?_⟩; have HO397 := Aside0.mk (Kd.R_lower ho0 (below_size oB)); have HO400 := Aside0.mk (Kd.R_lower ho1 (below_size oB)); have HO403 := Aside0.mk (Kd.R_lower ho2 (below_size oB)); replace HO_3 := kr_ HO_3 hb; replace HO391 := Aside0.mk (Kd.Q_below (by (with_reducible repeat (first | apply Kd.Q_alloc | apply Kd.Q_drewN | apply Kd.Q_drew)); exact HO391.out) hb); replace BK381 := kb_ BK381 hb; replace HB := Aside0.mk (below_step oB hb); (try clear ho1); (try clear ho2)) | ((with_reducible refine gate_dst (N := 6) rfl ?_); refine bx_ 6 #[.int .i64 0, .int .i64 0, .int .i64 0, .slice none 0 0, .slice none 0 0, .slice none 0 0] 40 ?_; intro gb405 hg w16 hbox hb; have BK405 := Aside0.mk (hbox); have GW405 := gs_ hg; have NB381_405 := nl_ hg BK381; have NB405_381 := nr_ hg BK381; replace HO_3 := kr_ HO_3 hb; replace HO391 := Aside0.mk (Kd.Q_below (by (with_reducible repeat (first | apply Kd.Q_alloc | apply Kd.Q_drewN | apply Kd.Q_drew)); exact HO391.out) hb); replace HO397 := kr_ HO397 hb; replace HO400 := kr_ HO400 hb; replace HO403 := kr_ HO403 hb; replace BK381 := kb_ BK381 hb; replace HB := Aside0.mk (below_step oB hb); clear hb hbox hg; have hnb17 := NB405_381.out; have hnc17 := NB381_405.out; obtain ⟨⟨_, _, _, _, _, _⟩, _, _, _, _, _, _⟩ := z6 BK405; obtain ⟨Ao19, co19, eo19⟩ := Kd.R_slice HO397.out; subst eo19; obtain ⟨Ao20, co20, eo20⟩ := Kd.R_slice HO400.out; subst eo20; obtain ⟨Ao21, co21, eo21⟩ := Kd.R_slice HO403.out; subst eo21))
      (try simp only [Act.put, List.setIfInBounds_toArray, List.set_cons_zero, List.set_cons_succ])
      go_cut [32] (fun v32 wc => ∃ (kq : Nat) (x32_10 : Bool), v32 = .bool x32_10 ∧ Aside0 (impl_Reached.j1 kq x3_1 y389 (rd x4_1 0) x32_10 l0_0 a0_1 t392 t393 t394 t395 t398 t401 = some r) ∧ Aside0 (kq ≤ k1) ∧ Aside0 (Kd.R (Kd.int .i64) 3 wc w.heap.size (fun k_ => some k_ ≠ ((.slice A13 y389.length c13) : Value).ownBlock) u3 x3_1) ∧ Aside0 (Kd.Q (Kd.int .i64) 3 wc w.heap.size (fun k_ => some k_ ≠ (u3 : Value).ownBlock) (.slice A13 y389.length c13) y389) ∧ Aside0 (Kd.R (Kd.int .u8) 5 wc w.heap.size (fun _ => True) (.slice Ao19 t395.length co19) t395) ∧ Aside0 (Kd.R k82 82 wc w.heap.size (fun _ => True) (.slice Ao20 t398.length co20) t398) ∧ Aside0 (Kd.R k90 90 wc w.heap.size (fun _ => True) (.slice Ao21 t401.length co21) t401) ∧ Aside0 (wc.heap[gb381]? = some (.cells #[(.slice A0_0 l0_0.length c0_0), .int .i64 a0_1] 34 (0, 0))) ∧ Aside0 (wc.heap[gb405]? = some (.cells #[.int .i64 t392, .int .i64 t393, .int .i64 t394, (.slice Ao19 t395.length co19), (.slice Ao20 t398.length co20), (.slice Ao21 t401.length co21)] 40 (0, 0))) ∧ Aside0 (Below w.heap.size w wc))
      case first =>
       have H := HC11.out
       clear HC11
       replace H := itB H
       rcases H with ⟨rfl, H⟩ | ⟨rfl, H⟩
       ·replace H := bA H
        obtain ⟨t406, A23, H⟩ := H
        try dsimp only at H
        have H' := Aside0.mk H
        clear H
        obtain ⟨Ao24, co24, eo24⟩ := Kd.R_slice HO_3.out
        subst eo24
        go_wp2_with (first | (go_at_call 58; (with_reducible refine (slices_Contains_int_int.calls _ _ x3_1 (rd x4_1 0) t406 _ ?side1 (ko HO_3) A23.out).mono ?_); (case side1 => refine (Kd.R_reads' (e := 3) (base := w.heap.size) (ok := fun k_ => some k_ ≠ (.slice A13 y389.length c13 : Value).ownBlock) (n := x3_1.length) (c := co24) ?_).2.2; exact (by (with_reducible repeat (first | apply Kd.R_alloc | apply Kd.R_drewN | apply Kd.R_drew)); exact (Kd.R_mono (Kd.R_far (p := ⟨gb405, 5, none⟩) (Kd.R_far (p := ⟨gb405, 4, none⟩) (Kd.R_far (p := ⟨gb405, 3, none⟩) (Kd.R_far (p := ⟨gb405, 2, none⟩) (Kd.R_far (p := ⟨gb405, 1, none⟩) (Kd.R_far (p := ⟨gb405, 0, none⟩) (Kd.R_types HO_3.out BK405.out (by decide)) (fun _ hk => hk.2) (.int .i64 t392)) (fun _ hk => hk.2) (.int .i64 t393)) (fun _ hk => hk.2) (.int .i64 t394)) (fun _ hk => hk.2) (.slice Ao19 t395.length co19)) (fun _ hk => hk.2) (.slice Ao20 t398.length co20)) (fun _ hk => hk.2) (.slice Ao21 t401.length co21)) (fun _ h_ => h_.1)))); rintro e w25 ⟨rfl, hb⟩; replace HO_3 := Aside0.mk (Kd.R_below (by (with_reducible repeat (first | apply Kd.R_alloc | apply Kd.R_drewN | apply Kd.R_drew)); exact (Kd.R_mono (Kd.R_far (p := ⟨gb405, 5, none⟩) (Kd.R_far (p := ⟨gb405, 4, none⟩) (Kd.R_far (p := ⟨gb405, 3, none⟩) (Kd.R_far (p := ⟨gb405, 2, none⟩) (Kd.R_far (p := ⟨gb405, 1, none⟩) (Kd.R_far (p := ⟨gb405, 0, none⟩) (Kd.R_types HO_3.out BK405.out (by decide)) (fun _ hk => hk.2) (.int .i64 t392)) (fun _ hk => hk.2) (.int .i64 t393)) (fun _ hk => hk.2) (.int .i64 t394)) (fun _ hk => hk.2) (.slice Ao19 t395.length co19)) (fun _ hk => hk.2) (.slice Ao20 t398.length co20)) (fun _ hk => hk.2) (.slice Ao21 t401.length co21)) (fun _ h_ => h_.1))) hb); replace HO391 := Aside0.mk (Kd.Q_below (by (with_reducible repeat (first | apply Kd.Q_alloc | apply Kd.Q_drewN | apply Kd.Q_drew)); exact (Kd.Q_mono (Kd.Q_far (p := ⟨gb405, 5, none⟩) (Kd.Q_far (p := ⟨gb405, 4, none⟩) (Kd.Q_far (p := ⟨gb405, 3, none⟩) (Kd.Q_far (p := ⟨gb405, 2, none⟩) (Kd.Q_far (p := ⟨gb405, 1, none⟩) (Kd.Q_far (p := ⟨gb405, 0, none⟩) (Kd.Q_types HO391.out BK405.out (by decide)) (fun _ hk => hk.2) (.int .i64 t392)) (fun _ hk => hk.2) (.int .i64 t393)) (fun _ hk => hk.2) (.int .i64 t394)) (fun _ hk => hk.2) (.slice Ao19 t395.length co19)) (fun _ hk => hk.2) (.slice Ao20 t398.length co20)) (fun _ hk => hk.2) (.slice Ao21 t401.length co21)) (fun _ h_ => h_.1))) hb); replace HO397 := Aside0.mk (Kd.R_below (by (with_reducible repeat (first | apply Kd.R_alloc | apply Kd.R_drewN | apply Kd.R_drew)); exact (Kd.R_mono (Kd.R_far (p := ⟨gb405, 5, none⟩) (Kd.R_far (p := ⟨gb405, 4, none⟩) (Kd.R_far (p := ⟨gb405, 3, none⟩) (Kd.R_far (p := ⟨gb405, 2, none⟩) (Kd.R_far (p := ⟨gb405, 1, none⟩) (Kd.R_far (p := ⟨gb405, 0, none⟩) (Kd.R_types HO397.out BK405.out (by decide)) (fun _ hk => hk.2) (.int .i64 t392)) (fun _ hk => hk.2) (.int .i64 t393)) (fun _ hk => hk.2) (.int .i64 t394)) (fun _ hk => hk.2) (.slice Ao19 t395.length co19)) (fun _ hk => hk.2) (.slice Ao20 t398.length co20)) (fun _ hk => hk.2) (.slice Ao21 t401.length co21)) (fun _ h_ => h_.1))) hb); replace HO400 := Aside0.mk (Kd.R_below (by (with_reducible repeat (first | apply Kd.R_alloc | apply Kd.R_drewN | apply Kd.R_drew)); exact (Kd.R_mono (Kd.R_far (p := ⟨gb405, 5, none⟩) (Kd.R_far (p := ⟨gb405, 4, none⟩) (Kd.R_far (p := ⟨gb405, 3, none⟩) (Kd.R_far (p := ⟨gb405, 2, none⟩) (Kd.R_far (p := ⟨gb405, 1, none⟩) (Kd.R_far (p := ⟨gb405, 0, none⟩) (Kd.R_types HO400.out BK405.out (by decide)) (fun _ hk => hk.2) (.int .i64 t392)) (fun _ hk => hk.2) (.int .i64 t393)) (fun _ hk => hk.2) (.int .i64 t394)) (fun _ hk => hk.2) (.slice Ao19 t395.length co19)) (fun _ hk => hk.2) (.slice Ao20 t398.length co20)) (fun _ hk => hk.2) (.slice Ao21 t401.length co21)) (fun _ h_ => h_.1))) hb); replace HO403 := Aside0.mk (Kd.R_below (by (with_reducible repeat (first | apply Kd.R_alloc | apply Kd.R_drewN | apply Kd.R_drew)); exact (Kd.R_mono (Kd.R_far (p := ⟨gb405, 5, none⟩) (Kd.R_far (p := ⟨gb405, 4, none⟩) (Kd.R_far (p := ⟨gb405, 3, none⟩) (Kd.R_far (p := ⟨gb405, 2, none⟩) (Kd.R_far (p := ⟨gb405, 1, none⟩) (Kd.R_far (p := ⟨gb405, 0, none⟩) (Kd.R_types HO403.out BK405.out (by decide)) (fun _ hk => hk.2) (.int .i64 t392)) (fun _ hk => hk.2) (.int .i64 t393)) (fun _ hk => hk.2) (.int .i64 t394)) (fun _ hk => hk.2) (.slice Ao19 t395.length co19)) (fun _ hk => hk.2) (.slice Ao20 t398.length co20)) (fun _ hk => hk.2) (.slice Ao21 t401.length co21)) (fun _ h_ => h_.1))) hb); replace BK381 := kb_ BK381 hb; replace BK405 := kp_ #[.int .i64 t392, .int .i64 t393, .int .i64 t394, .slice Ao19 t395.length co19, .slice Ao20 t398.length co20, .slice Ao21 t401.length co21] BK405 hb; replace HB := Aside0.mk (below_step oB hb); (try clear hk)))
        go_meet
        case rel => exact ⟨_, (t406), oS, H', ⟨by have := HK1.out; first | omega | exact Nat.le_refl _⟩, ⟨oR HO_3⟩, ⟨by (with_reducible repeat (first | apply Kd.Q_alloc | apply Kd.Q_drewN | apply Kd.Q_drew)); exact HO391.out⟩, ⟨oR HO397⟩, ⟨oR HO400⟩, ⟨oR HO403⟩, ⟨oF BK381⟩, ⟨oF BK405⟩, ⟨oB⟩⟩
       ·have H' := Aside0.mk H
        clear H
        go_wp2
        go_meet
        case rel => exact ⟨_, (true), oS, H', ⟨by have := HK1.out; first | omega | exact Nat.le_refl _⟩, ⟨by (with_reducible repeat (first | apply Kd.R_alloc | apply Kd.R_drewN | apply Kd.R_drew)); exact Kd.R_mono (Kd.R_far (p := ⟨gb405, 5, none⟩) (Kd.R_far (p := ⟨gb405, 4, none⟩) (Kd.R_far (p := ⟨gb405, 3, none⟩) (Kd.R_far (p := ⟨gb405, 2, none⟩) (Kd.R_far (p := ⟨gb405, 1, none⟩) (Kd.R_far (p := ⟨gb405, 0, none⟩) (Kd.R_types HO_3.out BK405.out (by decide)) (fun _ hk => hk.2) (.int .i64 t392)) (fun _ hk => hk.2) (.int .i64 t393)) (fun _ hk => hk.2) (.int .i64 t394)) (fun _ hk => hk.2) (.slice Ao19 t395.length co19)) (fun _ hk => hk.2) (.slice Ao20 t398.length co20)) (fun _ hk => hk.2) (.slice Ao21 t401.length co21)) (fun _ hk => hk.1)⟩, ⟨by (with_reducible repeat (first | apply Kd.Q_alloc | apply Kd.Q_drewN | apply Kd.Q_drew)); exact Kd.Q_mono (Kd.Q_far (p := ⟨gb405, 5, none⟩) (Kd.Q_far (p := ⟨gb405, 4, none⟩) (Kd.Q_far (p := ⟨gb405, 3, none⟩) (Kd.Q_far (p := ⟨gb405, 2, none⟩) (Kd.Q_far (p := ⟨gb405, 1, none⟩) (Kd.Q_far (p := ⟨gb405, 0, none⟩) (Kd.Q_types HO391.out BK405.out (by decide)) (fun _ hk => hk.2) (.int .i64 t392)) (fun _ hk => hk.2) (.int .i64 t393)) (fun _ hk => hk.2) (.int .i64 t394)) (fun _ hk => hk.2) (.slice Ao19 t395.length co19)) (fun _ hk => hk.2) (.slice Ao20 t398.length co20)) (fun _ hk => hk.2) (.slice Ao21 t401.length co21)) (fun _ hk => hk.1)⟩, ⟨by (with_reducible repeat (first | apply Kd.R_alloc | apply Kd.R_drewN | apply Kd.R_drew)); exact Kd.R_mono (Kd.R_far (p := ⟨gb405, 5, none⟩) (Kd.R_far (p := ⟨gb405, 4, none⟩) (Kd.R_far (p := ⟨gb405, 3, none⟩) (Kd.R_far (p := ⟨gb405, 2, none⟩) (Kd.R_far (p := ⟨gb405, 1, none⟩) (Kd.R_far (p := ⟨gb405, 0, none⟩) (Kd.R_types HO397.out BK405.out (by decide)) (fun _ hk => hk.2) (.int .i64 t392)) (fun _ hk => hk.2) (.int .i64 t393)) (fun _ hk => hk.2) (.int .i64 t394)) (fun _ hk => hk.2) (.slice Ao19 t395.length co19)) (fun _ hk => hk.2) (.slice Ao20 t398.length co20)) (fun _ hk => hk.2) (.slice Ao21 t401.length co21)) (fun _ hk => trivial)⟩, ⟨by (with_reducible repeat (first | apply Kd.R_alloc | apply Kd.R_drewN | apply Kd.R_drew)); exact Kd.R_mono (Kd.R_far (p := ⟨gb405, 5, none⟩) (Kd.R_far (p := ⟨gb405, 4, none⟩) (Kd.R_far (p := ⟨gb405, 3, none⟩) (Kd.R_far (p := ⟨gb405, 2, none⟩) (Kd.R_far (p := ⟨gb405, 1, none⟩) (Kd.R_far (p := ⟨gb405, 0, none⟩) (Kd.R_types HO400.out BK405.out (by decide)) (fun _ hk => hk.2) (.int .i64 t392)) (fun _ hk => hk.2) (.int .i64 t393)) (fun _ hk => hk.2) (.int .i64 t394)) (fun _ hk => hk.2) (.slice Ao19 t395.length co19)) (fun _ hk => hk.2) (.slice Ao20 t398.length co20)) (fun _ hk => hk.2) (.slice Ao21 t401.length co21)) (fun _ hk => trivial)⟩, ⟨by (with_reducible repeat (first | apply Kd.R_alloc | apply Kd.R_drewN | apply Kd.R_drew)); exact Kd.R_mono (Kd.R_far (p := ⟨gb405, 5, none⟩) (Kd.R_far (p := ⟨gb405, 4, none⟩) (Kd.R_far (p := ⟨gb405, 3, none⟩) (Kd.R_far (p := ⟨gb405, 2, none⟩) (Kd.R_far (p := ⟨gb405, 1, none⟩) (Kd.R_far (p := ⟨gb405, 0, none⟩) (Kd.R_types HO403.out BK405.out (by decide)) (fun _ hk => hk.2) (.int .i64 t392)) (fun _ hk => hk.2) (.int .i64 t393)) (fun _ hk => hk.2) (.int .i64 t394)) (fun _ hk => hk.2) (.slice Ao19 t395.length co19)) (fun _ hk => hk.2) (.slice Ao20 t398.length co20)) (fun _ hk => hk.2) (.slice Ao21 t401.length co21)) (fun _ hk => trivial)⟩, ⟨oF BK381⟩, ⟨oP BK405⟩, ⟨oB⟩⟩
      case rest =>
       clear HC11
       try clear c7
       try clear c7b0
       try clear c7b1
       try clear c8
       try clear c8b0
       try clear c8b1
       try clear c9
       obtain ⟨kq, x32_10, rfl, HA, HJ10, HO_3, HO_4, HO_406003, HO_406004, HO_406005, BK381, BK405, HB⟩ := hcut
       cases kq with
       | zero => exact absurd HA.out (by simp [impl_Reached.j1])
       | succ kj10 =>
        have H := HA.out
        clear HA
        simp only [impl_Reached.j1] at H
        replace H := itB H
        rcases H with ⟨rfl, H⟩ | ⟨rfl, H⟩
        ·have H' := Aside0.mk H
         clear H
         go_wp2
         go_roundg kj10
         case measure => have := HK1.out; have := HJ10.out; omega
         case rel => exact ⟨(x3_1), (y389), H', ⟨by have := HK1.out; have := HJ10.out; omega⟩, ⟨oR HO_3⟩, ⟨by (with_reducible repeat (first | apply Kd.Q_alloc | apply Kd.Q_drewN | apply Kd.Q_drew)); exact HO_4.out⟩, ⟨oF BK381⟩, ⟨oB⟩⟩
        ·by_cases c27 : x3_1.length < 17592186044416
         ·rw [if_pos c27] at H
          have LMc27 := Aside0.mk c27
          clear c27
          obtain ⟨y407, hy407⟩ : ∃ y_ : List Int, y_ = (x3_1 ++ [(rd x4_1 0)]) := ⟨_, rfl⟩
          replace H : (if t393 = 2 then (impl_Reached.l1 kj10 y407 y389 t398 (t398.length : Int) 0 l0_0 a0_1) else (impl_Reached.l0 kj10 y407 y389 l0_0 a0_1)) = some r := by first | (rw [hy407]; with_reducible exact H) | (have H2_ := (Option.bind_some _ _).symm.trans H; rw [hy407]; with_reducible exact H2_) | (have H2_ := (Option.bind_some _ _).symm.trans H; with_reducible exact H2_) | with_reducible exact H | (rw [hy407]; exact H) | exact H
          have Ny407 := Aside0.mk hy407
          clear hy407
          by_cases c28 : t393 = 2
          ·rw [if_pos c28] at H
           have c28b0 : (t393 == 2) = true := beq_iff_eq.mpr c28
           have c28b1 : (t393 != 2) = false := bne_eq_false_iff_eq.mpr c28
           clear c28
           have H' := Aside0.mk H
           clear H
           go_wp2_with (first | ((with_reducible refine gate_builtin (b := .append) (xs := #[.tmp 33, .tmp 35]) rfl ?_); at_builtin; refine Kd.R_append (Kd.int .i64) (w0 := w) w.heap.size rfl (.tmp 33) (.tmp 35) 47 3 (.int .i64 0) 8 rfl Try.underlying47 info3 rfl (by decide) (by omega) u3 x3_1 (rd x4_1 0) [.int .i64 (rd x4_1 0)] (fun k_ => some k_ ≠ (.slice A13 y389.length c13 : Value).ownBlock) (fun _ => False) rfl rfl ?aP (fun _ hk => hk.elim) ?aF ?aO ?aB ?aS ?aL ?_; (case aP => exact rfl); (case aB => exact oB); (case aF => exact (fun k_ hk => Kd.fresh' (Kd.Q_lt (by (with_reducible repeat (first | apply Kd.Q_alloc | apply Kd.Q_drewN | apply Kd.Q_drew)); exact HO_4.out)) k_ hk)); (case aO => exact (oR HO_3)); (case aS => exact (below_size oB)); (case aL => have := LMc27.out; omega); intro v408 w29 ho hb hg hat; rw [← Ny407.out] at ho; have HO409 := Aside0.mk (ho); replace HO_4 := Aside0.mk (Kd.Q_after (ok := (fun _ => True)) (by (with_reducible repeat (first | apply Kd.Q_alloc | apply Kd.Q_drewN | apply Kd.Q_drew)); exact Kd.Q_mono HO_4.out (fun _ hk => ⟨trivial, hk⟩)) hg hat); replace HO_406003 := Aside0.mk (Kd.R_over' (oR HO_406003) (Kd.R_typed (oR HO_3)) (by decide) hg); replace HO_406004 := Aside0.mk (Kd.R_over' (oR HO_406004) (Kd.R_typed (oR HO_3)) (by decide) hg); replace HO_406005 := Aside0.mk (Kd.R_over' (oR HO_406005) (Kd.R_typed (oR HO_3)) (by decide) hg); replace BK381 := Aside0.mk (blk_grown (g := gb381) (o := .cells #[.slice A0_0 l0_0.length c0_0, .int .i64 a0_1] 34 (0, 0)) (oF BK381) hg (Kd.R_ne HO_3.out BK381.out (by decide))); replace BK405 := Aside0.mk (blk_grown (g := gb405) (o := .cells #[.int .i64 t392, .int .i64 t393, .int .i64 t394, .slice Ao19 t395.length co19, .slice Ao20 t398.length co20, .slice Ao21 t401.length co21] 40 (0, 0)) (oF BK405) hg (Kd.R_ne HO_3.out BK405.out (by decide))); replace HB := Aside0.mk (hb); clear HO_3; clear ho hb hg hat; have hnb30 := NB405_381.out; have hnc30 := NB381_405.out; obtain ⟨⟨_, _, _, _, _, _⟩, _, _, _, _, _, _⟩ := z6 BK405))
           go_loopg [4, 43] kj10 (fun kq v4 v43 w' => ∃ (x4_3 : List Int) (x43_3 : Int), v43 = .int .i64 x43_3 ∧ Aside0 (impl_Reached.l1 kq y407 x4_3 t398 (t398.length : Int) x43_3 l0_0 a0_1 = some r) ∧ Aside0 (kq ≤ kj10) ∧ Aside0 (Kd.R (Kd.int .i64) 3 w' w.heap.size (fun k_ => some k_ ≠ (v4 : Value).ownBlock) v408 y407) ∧ Aside0 (Kd.Q (Kd.int .i64) 3 w' w.heap.size (fun k_ => some k_ ≠ (v408 : Value).ownBlock) v4 x4_3) ∧ Aside0 (Kd.R k82 82 w' w.heap.size (fun _ => True) (.slice Ao20 t398.length co20) t398) ∧ Aside0 (Kd.R (Kd.int .u8) 5 w' w.heap.size (fun _ => True) (.slice Ao19 t395.length co19) t395) ∧ Aside0 (Kd.R k82 82 w' w.heap.size (fun _ => True) (.slice Ao20 t398.length co20) t398) ∧ Aside0 (Kd.R k90 90 w' w.heap.size (fun _ => True) (.slice Ao21 t401.length co21) t401) ∧ Aside0 (w'.heap[gb381]? = some (.cells #[(.slice A0_0 l0_0.length c0_0), .int .i64 a0_1] 34 (0, 0))) ∧ Aside0 (w'.heap[gb405]? = some (.cells #[.int .i64 t392, .int .i64 t393, .int .i64 t394, (.slice Ao19 t395.length co19), (.slice Ao20 t398.length co20), (.slice Ao21 t401.length co21)] 40 (0, 0))) ∧ Aside0 (Below w.heap.size w w'))
           case atStart => exact ⟨(y389), (0), oS, H', ⟨Nat.le_refl _⟩, ⟨oR HO409⟩, ⟨by (with_reducible repeat (first | apply Kd.Q_alloc | apply Kd.Q_drewN | apply Kd.Q_drew)); exact Kd.Q_mono HO_4.out (fun _ hk => hk.2)⟩, ⟨oR HO_406004⟩, ⟨oR HO_406003⟩, ⟨oR HO_406004⟩, ⟨oR HO_406005⟩, ⟨oF BK381⟩, ⟨oF BK405⟩, ⟨oB⟩⟩
           case round =>
            clear H'
            try clear c7
            try clear c7b0
            try clear c7b1
            try clear c8
            try clear c8b0
            try clear c8b1
            try clear c9
            try clear c27
            try clear c28
            obtain ⟨x4_3, x43_3, rfl, HA, HK3, HO_3, HO_4, HO_41, HO_406003, HO_406004, HO_406005, BK381, BK405, HB⟩ := hrel
            cases gk with
            | zero => exact absurd HA.out (by simp [impl_Reached.l1])
            | succ k3 =>
             have H := HA.out
             clear HA
             simp only [impl_Reached.l1] at H
             replace H := itD H
             rcases H with ⟨c32b0, H⟩ | ⟨c32b0, H⟩
             ·replace H := itD H
              rcases H with ⟨c33b0, H⟩ | ⟨c33b0, H⟩
              ·replace H := itD H
               rcases H with ⟨c34b0, H⟩ | ⟨c34b0, H⟩
               ·by_cases c35 : x4_3.length < 17592186044416
                ·rw [if_pos c35] at H
                 have LMc35 := Aside0.mk c35
                 clear c35
                 obtain ⟨y412, hy412⟩ : ∃ y_ : List Int, y_ = (x4_3 ++ [(rd_T82 t398 x43_3).f1]) := ⟨_, rfl⟩
                 replace H : (impl_Reached.l1 k3 y407 y412 t398 (t398.length : Int) (wrap64 (x43_3 + 1)) l0_0 a0_1) = some r := by first | (rw [hy412]; with_reducible exact H) | (have H2_ := (Option.bind_some _ _).symm.trans H; rw [hy412]; with_reducible exact H2_) | (have H2_ := (Option.bind_some _ _).symm.trans H; with_reducible exact H2_) | with_reducible exact H | (rw [hy412]; exact H) | exact H
                 have Ny412 := Aside0.mk hy412
                 clear hy412
                 have H' := Aside0.mk H
                 clear H
                 have p410 : (0 ≤ (x43_3 : Int)) = True := oT
                 have q410 : (x43_3 < (t398.length : Int)) = True := oT
                 obtain ⟨ad410, e410, hx410_0, hx410_1⟩ := at_T82 (Kd.R_reads' HO_41.out).2.2 x43_3 oa oa
                 cases e410
                 go_wp2_with (first | ((with_reducible refine gate_dst (N := 9) rfl ?_); refine bx_ 9 #[.string (⟨#[]⟩ : ByteArray), .int .i64 0] 82 ?_; intro gb411 hg w36 hbox hb; have BK411 := Aside0.mk (hbox); have GW411 := gs_ hg; have NB381_411 := nl_ hg BK381; have NB411_381 := nr_ hg BK381; have NB405_411 := nl_ hg BK405; have NB411_405 := nr_ hg BK405; replace HO_3 := kr_ HO_3 hb; replace HO_4 := Aside0.mk (Kd.Q_below (by (with_reducible repeat (first | apply Kd.Q_alloc | apply Kd.Q_drewN | apply Kd.Q_drew)); exact HO_4.out) hb); replace HO_41 := Aside0.mk (Kd.R_below (Kd.R_elderB (oR HO_41) gb411 (Nat.le_of_eq hg.symm)) hb); replace HO_406003 := kr_ HO_406003 hb; replace HO_406004 := Aside0.mk (Kd.R_below (Kd.R_elderB (oR HO_406004) gb411 (Nat.le_of_eq hg.symm)) hb); replace HO_406005 := kr_ HO_406005 hb; replace BK381 := kb_ BK381 hb; replace BK405 := kb_ BK405 hb; replace HB := Aside0.mk (below_step oB hb); clear hb hbox hg; have hnb37 := NB411_381.out; have hnc37 := NB381_411.out; have hnb38 := NB411_405.out; have hnc38 := NB405_411.out; obtain ⟨⟨_, _⟩, _, _⟩ := z2 BK411) | ((with_reducible refine gate_builtin (b := .append) (xs := #[.tmp 47, .tmp 50]) rfl ?_); at_builtin; refine Kd.Q_append (Kd.int .i64) (w0 := w) w.heap.size rfl (.tmp 47) (.tmp 50) 47 3 (.int .i64 0) 8 rfl Try.underlying47 info3 rfl (by decide) (by omega) u4 x4_3 ((rd_T82 t398 x43_3).f1) [.int .i64 ((rd_T82 t398 x43_3).f1)] (fun k_ => some k_ ≠ (v408 : Value).ownBlock) (fun _ => False) rfl (by first | (go_simp; done) | (go_simp; rfl)) ?aP (fun _ hk => hk.elim) ?aF ?aO ?aB ?aS ?aL ?_; (case aP => exact rfl); (case aB => exact oB); (case aF => exact (fun k_ hk => Kd.fresh' (Kd.R_lt (by (with_reducible repeat (first | apply Kd.R_alloc | apply Kd.R_drewN | apply Kd.R_drew)); exact (Kd.R_mono (Kd.R_far (p := ⟨gb411, 1, none⟩) (Kd.R_far (p := ⟨gb411, 0, none⟩) (Kd.R_types HO_3.out BK411.out (by decide)) (fun _ hk => hk.2) (.string ((rd_T82 t398 x43_3).f0))) (fun _ hk => hk.2) (.int .i64 ((rd_T82 t398 x43_3).f1))) (fun _ h_ => h_.1)))) k_ hk)); (case aO => exact (by (with_reducible repeat (first | apply Kd.Q_alloc | apply Kd.Q_drewN | apply Kd.Q_drew)); exact Kd.Q_mono (Kd.Q_far (p := ⟨gb411, 1, none⟩) (Kd.Q_far (p := ⟨gb411, 0, none⟩) (Kd.Q_types HO_4.out BK411.out (by decide)) (fun _ hk => hk.2) (.string ((rd_T82 t398 x43_3).f0))) (fun _ hk => hk.2) (.int .i64 ((rd_T82 t398 x43_3).f1))) (fun _ hk => hk.1))); (case aS => exact (below_size oB)); (case aL => have := LMc35.out; omega); intro v413 w40 ho hb hg hat; rw [← Ny412.out] at ho; have HO414 := Aside0.mk (ho); replace HO_3 := Aside0.mk (Kd.R_after (ok := (fun _ => True)) (by (with_reducible repeat (first | apply Kd.R_alloc | apply Kd.R_drewN | apply Kd.R_drew)); exact Kd.R_mono (Kd.R_far (p := ⟨gb411, 1, none⟩) (Kd.R_far (p := ⟨gb411, 0, none⟩) (Kd.R_types HO_3.out BK411.out (by decide)) (fun _ hk => hk.2) (.string ((rd_T82 t398 x43_3).f0))) (fun _ hk => hk.2) (.int .i64 ((rd_T82 t398 x43_3).f1))) (fun _ hk => ⟨trivial, hk.1⟩)) hg hat); replace HO_41 := Aside0.mk (Kd.R_over' (by (with_reducible repeat (first | apply Kd.R_alloc | apply Kd.R_drewN | apply Kd.R_drew)); exact (Kd.R_mono (Kd.R_far (p := ⟨gb411, 1, none⟩) (Kd.R_far (p := ⟨gb411, 0, none⟩) (Kd.R_mono HO_41.out (fun k_ hk => (⟨hk, hk.2⟩ : _ ∧ k_ ≠ gb411))) (fun _ hk => hk.2) (.string ((rd_T82 t398 x43_3).f0))) (fun _ hk => hk.2) (.int .i64 ((rd_T82 t398 x43_3).f1))) (fun _ h_ => h_.1))) (Kd.Q_typed (by (with_reducible repeat (first | apply Kd.Q_alloc | apply Kd.Q_drewN | apply Kd.Q_drew)); exact (Kd.Q_mono (Kd.Q_far (p := ⟨gb411, 1, none⟩) (Kd.Q_far (p := ⟨gb411, 0, none⟩) (Kd.Q_types HO_4.out BK411.out (by decide)) (fun _ hk => hk.2) (.string ((rd_T82 t398 x43_3).f0))) (fun _ hk => hk.2) (.int .i64 ((rd_T82 t398 x43_3).f1))) (fun _ h_ => h_.1)))) (by decide) hg); replace HO_406003 := Aside0.mk (Kd.R_over' (by (with_reducible repeat (first | apply Kd.R_alloc | apply Kd.R_drewN | apply Kd.R_drew)); exact (Kd.R_mono (Kd.R_far (p := ⟨gb411, 1, none⟩) (Kd.R_far (p := ⟨gb411, 0, none⟩) (Kd.R_types HO_406003.out BK411.out (by decide)) (fun _ hk => hk.2) (.string ((rd_T82 t398 x43_3).f0))) (fun _ hk => hk.2) (.int .i64 ((rd_T82 t398 x43_3).f1))) (fun _ h_ => h_.1))) (Kd.Q_typed (by (with_reducible repeat (first | apply Kd.Q_alloc | apply Kd.Q_drewN | apply Kd.Q_drew)); exact (Kd.Q_mono (Kd.Q_far (p := ⟨gb411, 1, none⟩) (Kd.Q_far (p := ⟨gb411, 0, none⟩) (Kd.Q_types HO_4.out BK411.out (by decide)) (fun _ hk => hk.2) (.string ((rd_T82 t398 x43_3).f0))) (fun _ hk => hk.2) (.int .i64 ((rd_T82 t398 x43_3).f1))) (fun _ h_ => h_.1)))) (by decide) hg); replace HO_406004 := Aside0.mk (Kd.R_over' (by (with_reducible repeat (first | apply Kd.R_alloc | apply Kd.R_drewN | apply Kd.R_drew)); exact (Kd.R_mono (Kd.R_far (p := ⟨gb411, 1, none⟩) (Kd.R_far (p := ⟨gb411, 0, none⟩) (Kd.R_mono HO_406004.out (fun k_ hk => (⟨hk, hk.2⟩ : _ ∧ k_ ≠ gb411))) (fun _ hk => hk.2) (.string ((rd_T82 t398 x43_3).f0))) (fun _ hk => hk.2) (.int .i64 ((rd_T82 t398 x43_3).f1))) (fun _ h_ => h_.1))) (Kd.Q_typed (by (with_reducible repeat (first | apply Kd.Q_alloc | apply Kd.Q_drewN | apply Kd.Q_drew)); exact (Kd.Q_mono (Kd.Q_far (p := ⟨gb411, 1, none⟩) (Kd.Q_far (p := ⟨gb411, 0, none⟩) (Kd.Q_types HO_4.out BK411.out (by decide)) (fun _ hk => hk.2) (.string ((rd_T82 t398 x43_3).f0))) (fun _ hk => hk.2) (.int .i64 ((rd_T82 t398 x43_3).f1))) (fun _ h_ => h_.1)))) (by decide) hg); replace HO_406005 := Aside0.mk (Kd.R_over' (by (with_reducible repeat (first | apply Kd.R_alloc | apply Kd.R_drewN | apply Kd.R_drew)); exact (Kd.R_mono (Kd.R_far (p := ⟨gb411, 1, none⟩) (Kd.R_far (p := ⟨gb411, 0, none⟩) (Kd.R_types HO_406005.out BK411.out (by decide)) (fun _ hk => hk.2) (.string ((rd_T82 t398 x43_3).f0))) (fun _ hk => hk.2) (.int .i64 ((rd_T82 t398 x43_3).f1))) (fun _ h_ => h_.1))) (Kd.Q_typed (by (with_reducible repeat (first | apply Kd.Q_alloc | apply Kd.Q_drewN | apply Kd.Q_drew)); exact (Kd.Q_mono (Kd.Q_far (p := ⟨gb411, 1, none⟩) (Kd.Q_far (p := ⟨gb411, 0, none⟩) (Kd.Q_types HO_4.out BK411.out (by decide)) (fun _ hk => hk.2) (.string ((rd_T82 t398 x43_3).f0))) (fun _ hk => hk.2) (.int .i64 ((rd_T82 t398 x43_3).f1))) (fun _ h_ => h_.1)))) (by decide) hg); replace BK381 := Aside0.mk (blk_grown (g := gb381) (o := .cells #[.slice A0_0 l0_0.length c0_0, .int .i64 a0_1] 34 (0, 0)) (oF BK381) hg (Kd.Q_ne HO_4.out BK381.out (by decide))); replace BK405 := Aside0.mk (blk_grown (g := gb405) (o := .cells #[.int .i64 t392, .int .i64 t393, .int .i64 t394, .slice Ao19 t395.length co19, .slice (some ad410) t398.length co20, .slice Ao21 t401.length co21] 40 (0, 0)) (oF BK405) hg (Kd.Q_ne HO_4.out BK405.out (by decide))); replace BK411 := Aside0.mk (blk_grown (g := gb411) (o := .cells #[.string ((rd_T82 t398 x43_3).f0), .int .i64 ((rd_T82 t398 x43_3).f1)] 82 (0, 0)) (oP BK411) hg (Kd.Q_ne HO_4.out BK411.out (by decide))); replace HB := Aside0.mk (hb); clear HO_4; clear ho hb hg hat))
                 go_roundg k3
                 case measure => have := HK1.out; have := HJ10.out; have := HK3.out; omega
                 case rel => exact ⟨(y412), (wrap64 (x43_3 + 1)), oS, H', ⟨by have := HK1.out; have := HJ10.out; have := HK3.out; omega⟩, ⟨by (with_reducible repeat (first | apply Kd.R_alloc | apply Kd.R_drewN | apply Kd.R_drew)); exact Kd.R_mono HO_3.out (fun _ hk => hk.2)⟩, ⟨by (with_reducible repeat (first | apply Kd.Q_alloc | apply Kd.Q_drewN | apply Kd.Q_drew)); exact HO414.out⟩, ⟨by (with_reducible repeat (first | apply Kd.R_alloc | apply Kd.R_drewN | apply Kd.R_drew)); exact Kd.R_mono HO_41.out (fun _ hk => trivial)⟩, ⟨oR HO_406003⟩, ⟨by (with_reducible repeat (first | apply Kd.R_alloc | apply Kd.R_drewN | apply Kd.R_drew)); exact Kd.R_mono HO_406004.out (fun _ hk => trivial)⟩, ⟨oR HO_406005⟩, ⟨oF BK381⟩, ⟨oF BK405⟩, ⟨oB⟩⟩
                ·rw [if_neg c35] at H
                 exact absurd H (by simp)
               ·cases H
              ·cases H
             ·have H' := Aside0.mk H
              clear H
              go_wp2
              go_roundg k3
              case measure => have := HK1.out; have := HJ10.out; have := HK3.out; omega
              case rel => exact ⟨(y407), (x4_3), H', ⟨by have := HK1.out; have := HJ10.out; have := HK3.out; omega⟩, ⟨oR HO_3⟩, ⟨by (with_reducible repeat (first | apply Kd.Q_alloc | apply Kd.Q_drewN | apply Kd.Q_drew)); exact HO_4.out⟩, ⟨oF BK381⟩, ⟨oB⟩⟩
          ·rw [if_neg c28] at H
           have c28b0 : (t393 == 2) = false := beq_eq_false_iff_ne.mpr c28
           have c28b1 : (t393 != 2) = true := bne_iff_ne.mpr c28
           have H' := Aside0.mk H
           clear H
           go_wp2_with (first | ((with_reducible refine gate_builtin (b := .append) (xs := #[.tmp 33, .tmp 35]) rfl ?_); at_builtin; refine Kd.R_append (Kd.int .i64) (w0 := w) w.heap.size rfl (.tmp 33) (.tmp 35) 47 3 (.int .i64 0) 8 rfl Try.underlying47 info3 rfl (by decide) (by omega) u3 x3_1 (rd x4_1 0) [.int .i64 (rd x4_1 0)] (fun k_ => some k_ ≠ (.slice A13 y389.length c13 : Value).ownBlock) (fun _ => False) rfl rfl ?aP (fun _ hk => hk.elim) ?aF ?aO ?aB ?aS ?aL ?_; (case aP => exact rfl); (case aB => exact oB); (case aF => exact (fun k_ hk => Kd.fresh' (Kd.Q_lt (by (with_reducible repeat (first | apply Kd.Q_alloc | apply Kd.Q_drewN | apply Kd.Q_drew)); exact HO_4.out)) k_ hk)); (case aO => exact (oR HO_3)); (case aS => exact (below_size oB)); (case aL => have := LMc27.out; omega); intro v408 w41 ho hb hg hat; rw [← Ny407.out] at ho; have HO409 := Aside0.mk (ho); replace HO_4 := Aside0.mk (Kd.Q_after (ok := (fun _ => True)) (by (with_reducible repeat (first | apply Kd.Q_alloc | apply Kd.Q_drewN | apply Kd.Q_drew)); exact Kd.Q_mono HO_4.out (fun _ hk => ⟨trivial, hk⟩)) hg hat); replace HO_406003 := Aside0.mk (Kd.R_over' (oR HO_406003) (Kd.R_typed (oR HO_3)) (by decide) hg); replace HO_406004 := Aside0.mk (Kd.R_over' (oR HO_406004) (Kd.R_typed (oR HO_3)) (by decide) hg); replace HO_406005 := Aside0.mk (Kd.R_over' (oR HO_406005) (Kd.R_typed (oR HO_3)) (by decide) hg); replace BK381 := Aside0.mk (blk_grown (g := gb381) (o := .cells #[.slice A0_0 l0_0.length c0_0, .int .i64 a0_1] 34 (0, 0)) (oF BK381) hg (Kd.R_ne HO_3.out BK381.out (by decide))); replace BK405 := Aside0.mk (blk_grown (g := gb405) (o := .cells #[.int .i64 t392, .int .i64 t393, .int .i64 t394, .slice Ao19 t395.length co19, .slice Ao20 t398.length co20, .slice Ao21 t401.length co21] 40 (0, 0)) (oF BK405) hg (Kd.R_ne HO_3.out BK405.out (by decide))); replace HB := Aside0.mk (hb); clear HO_3; clear ho hb hg hat; have hnb42 := NB405_381.out; have hnc42 := NB381_405.out; obtain ⟨⟨_, _, _, _, _, _⟩, _, _, _, _, _, _⟩ := z6 BK405))
           go_roundg kj10
           case measure => have := HK1.out; have := HJ10.out; omega
           case rel => exact ⟨(y407), (y389), H', ⟨by have := HK1.out; have := HJ10.out; omega⟩, ⟨oR HO409⟩, ⟨by (with_reducible repeat (first | apply Kd.Q_alloc | apply Kd.Q_drewN | apply Kd.Q_drew)); exact Kd.Q_mono HO_4.out (fun _ hk => hk.2)⟩, ⟨oF BK381⟩, ⟨oB⟩⟩
         ·rw [if_neg c27] at H
          exact absurd H (by simp)
     ·rw [if_neg c9] at H
      exact absurd H (by simp)
    ·rw [if_neg c8] at H
     exact absurd H (by simp)
   ·rw [if_neg c7] at H
    have c7b0 : decide (0 < (x4_1.length : Int)) = false := decide_eq_false c7
    have c7b1 : decide (0 < x4_1.length) = false := decide_eq_false (by omega)
    clear c7
    split at H
    case isFalse => cases H
    case isTrue hsl_ =>
    obtain rfl := Option.some.inj H
    obtain ⟨Ao44, co44, eo44, _⟩ := Kd.Q_slice HO_4.out
    subst eo44
    obtain ⟨Aq_, cq_, rfl⟩ := Kd.R_slice HO_3.out
    go_wp2_with (go_at_call 59; refine (sortOwn.calls Aq_ cq_ w.heap.size (fun _ => True) x3_1 _ (Kd.R_mono (by (with_reducible repeat (first | apply Kd.R_alloc | apply Kd.R_drewN | apply Kd.R_drew)); exact HO_3.out) (fun _ _ => trivial)) hsl_).mono ?_; rintro e w9_ ⟨rfl, hs_, hg_⟩)
    go_ret
    exact ⟨_, oE, hs_, (oB : Below w.heap.size w _).grown hg_ (below_size oB) (fun k_ hk_ => Kd.R_base hs_ k_ hk_)⟩

/-! ### impl_from: function 96 -/
def impl_from.f (a0 : Int) (a1 : Int) (a2 : Int) : Option (Bool) := if a0 ≥ a1 then (some (decide (a0 ≤ a2))) else (some false)
set_option maxHeartbeats 8000000 in
set_option maxRecDepth 100000 in
theorem impl_from.calls (a0 : Int) (a1 : Int) (a2 : Int) (r : Bool) (w : World) (h : impl_from.f a0 a1 a2 = some r) :
  Calls Try.prog 96 #[.int .i64 a0, .int .i64 a1, .int .i64 a2] w fun e w' => e = .returned (.bool r) ∧ Drawn0 w w' := by
 unfold impl_from.f at h
 have H := h
 clear h
 replace H := itH H
 rcases H with ⟨c4b0, H⟩ | ⟨c4b0, H⟩
 ·obtain rfl := Option.some.inj H
  go_enter Try.func96, Try.ntmps96
  go_wp2
  go_ret
  exact ⟨oS, oD⟩
 ·obtain rfl := Option.some.inj H
  go_enter Try.func96, Try.ntmps96
  go_wp2
  go_ret
  exact ⟨oS, oD⟩

end Go.Proofs.Ytmndnegpclaidaa.P
