-- By this session's own program (wip/myprint.py) out of the translation; Lean checks it.
import Derived.Test.YtkfcmpalbhmmaaaDoorPx0
import Derived.Test.YtkfcmpalbhmmaaaDoorPx2
namespace Go.Proofs.YtkfcmpalbhmmaaaDoor.P
open Go.RowKit Go.Proofs.YtkfcmpalbhmmaaaDoorW.PrintWords Go.Proofs.YtkfcmpalbhmmaaaDoorW.PrintLast Go.Proofs.YtkfcmpalbhmmaaaDoorW.PrintMore
attribute [local go_sem] max2_int min2_int max_two min_two max_three min_three max_four min_four   -- for this text's walks alone
set_option linter.unusedVariables false
set_option linter.unusedSimpArgs false

/-! ### spec_l5Walk: function 65 -/
def spec_l5Walk.l0 : Nat → List ByteArray → Int → Int → List (S64) → Int → Option (Int × Int)
 | 0, _, _, _, _, _ => none
 | k + 1, x1, x6, x7, x226000, x226001 => if x7 < (x1.length : Int) then ((spec_l4At.f k x226000 x226001 x6).bind fun t226 => (if t226 < 0 then (some (0, 2)) else (if 0 ≤ t226 then (if t226 < (x226000.length : Int) then (if ((rd_T64 x226000 t226).f1) = 2 then (if 0 ≤ x7 then ((spec_EntOf.f k ((rd_T64 x226000 t226).f0) ((rd_T64 x226000 t226).f1) ((rd_T64 x226000 t226).f2) ((rd_T64 x226000 t226).f3) ((rd_T64 x226000 t226).f4) ((rd_T64 x226000 t226).f5) (rdOf ByteArray.empty x1 x7)).bind fun t230 => (if t230 = 0 then (some (0, 2)) else (spec_l5Walk.l0 k x1 t230 (wrap64 (x7 + 1)) x226000 x226001))) else (none)) else (some (0, 3))) else (none)) else (none)))) else (some (x6, 0))
def spec_l5Walk.f (k : Nat) (l0_0 : List (S64)) (a0_1 : Int) (l1 : List ByteArray) : Option (Int × Int) := spec_l5Walk.l0 k l1 1 0 l0_0 a0_1
def spec_l5Walk.T10 : Bool × List (List Nat × List Nat) := (true, [([], []), ([0], [0]), ([], []), ([1, 2], [1, 2]), ([3], [3]), ([], []), ([], []), ([5, 6], [5, 6]), ([7], [7]), ([4, 8], [4, 8]), ([9, 9, 0, 1, 2, 3, 4, 5, 6, 7, 8, 9], [9])])
def spec_l5Walk.B10 : List Nat := [0, 1, 0, 7, 15, 0, 0, 96, 224, 511, 1023]
theorem spec_l5Walk.tab10 : rtab .any (opsOf Tryd.f65 10) = spec_l5Walk.T10 := by kernel_rfl
theorem spec_l5Walk.bits10 : waitsOk spec_l5Walk.T10.2 spec_l5Walk.B10 = true := by kernel_rfl
set_option maxHeartbeats 8000000 in
set_option maxRecDepth 100000 in
theorem spec_l5Walk.calls (k : Nat) (A0_0 : Option Addr) (c0_0 : Nat) (l0_0 : List (S64)) (a0_1 : Int) (A1 : Option Addr) (c1 : Nat) (l1 : List ByteArray) (r1 : Int) (r2 : Int) (w : World) (hr0_0 : Kd.C k64 w A0_0 l0_0.length l0_0) (hc0_0 : l0_0.length ≤ c0_0) (hr1 : Kd.C Kd.string w A1 l1.length l1) (hc1 : l1.length ≤ c1) (h : spec_l5Walk.f k l0_0 a0_1 l1 = some (r1, r2)) :
  Calls Tryd.prog 65 #[.agg #[.slice A0_0 l0_0.length c0_0, .int .i64 a0_1], .slice A1 l1.length c1] w fun e w' => e = .returned (.tuple #[.int .i64 r1, .int .i64 r2]) ∧ Below w.heap.size w w' := by
 have hu46 := Tryd.underlying46
 have hu64 := Tryd.underlying64
 have HR0_0 := Aside0.mk hr0_0
 have HC0_0 := Aside0.mk hc0_0
 clear hr0_0 hc0_0
 have HR1 := Aside0.mk hr1
 have HC1 := Aside0.mk hc1
 clear hr1 hc1
 have HB := Aside0.mk (Below.refl w.heap.size w)
 unfold spec_l5Walk.f at h
 have H := h
 clear h
 have H' := Aside0.mk H
 clear H
 go_enter Tryd.func65, Tryd.ntmps65
 go_wp2_with (first | ((with_reducible refine gate_dst (N := 2) rfl ?_); refine bx_ 2 #[.slice A0_0 l0_0.length c0_0, .int .i64 a0_1] 46 ?_; intro gb225 hg w3 hbox hb; have BK225 := Aside0.mk (hbox); have GW225 := gs_ hg; have GE225 := gs_ hg; replace HB := Aside0.mk (below_step oB hb); clear hb hbox hg))
 go_loopg [6, 7] k (fun kq v6 v7 w' => ∃ (x6_1 : Int) (x7_1 : Int), v6 = .int .i64 x6_1 ∧ v7 = .int .i64 x7_1 ∧ Aside0 (spec_l5Walk.l0 kq l1 x6_1 x7_1 l0_0 a0_1 = some (r1, r2)) ∧ Aside0 (kq ≤ k) ∧ Aside0 (w'.heap[gb225]? = some (.cells #[(.slice A0_0 l0_0.length c0_0), .int .i64 a0_1] 46 (0, 0))) ∧ Aside0 (Below w.heap.size w w'))
 case atStart => exact ⟨(1), (0), oS, oS, H', ⟨Nat.le_refl _⟩, ⟨oF BK225⟩, ⟨oB⟩⟩
 case round =>
  clear H'
  try clear c1
  obtain ⟨x6_1, x7_1, rfl, rfl, HA, HK1, BK225, HB⟩ := hrel
  cases gk with
  | zero => exact absurd HA.out (by simp [spec_l5Walk.l0])
  | succ k1 =>
   have H := HA.out
   clear HA
   simp only [spec_l5Walk.l0] at H
   replace H := itD H
   rcases H with ⟨c4b0, H⟩ | ⟨c4b0, H⟩
   ·replace H := bA H
    obtain ⟨t226, A5, H⟩ := H
    try dsimp only at H
    replace H := itD H
    rcases H with ⟨c6b0, H⟩ | ⟨c6b0, H⟩
    ·simp only [Option.some.injEq, Prod.mk.injEq] at H
     obtain ⟨rfl, rfl⟩ := H
     obtain ⟨⟨_, _⟩, _, _⟩ := z2 BK225
     go_wp2_with (first | ((with_reducible refine gate_callee (f := 89) rfl ?_); refine gl_ 17 Tryd.func89 (spec_l4At.calls k1 _ _ l0_0 a0_1 x6_1 t226 _ (kC HR0_0) HC0_0.out A5.out) ?_; rintro e w8 ⟨rfl, hb⟩; refine ⟨_, rfl, ?_⟩; replace BK225 := kb_ BK225 hb; replace HB := Aside0.mk (below_step oB hb)))
     go_ret2
     exact ⟨oE, oB⟩
    ·replace H := itD H
     rcases H with ⟨c9b0, H⟩ | ⟨c9b0, H⟩
     ·replace H := itD H
      rcases H with ⟨c10b0, H⟩ | ⟨c10b0, H⟩
      ·by_cases c11 : ((rd_T64 l0_0 t226).f1) = 2
       ·rw [if_pos c11] at H
        have c11b0 : (((rd_T64 l0_0 t226).f1) == 2) = true := beq_iff_eq.mpr c11
        have c11b1 : (((rd_T64 l0_0 t226).f1) != 2) = false := bne_eq_false_iff_eq.mpr c11
        clear c11
        replace H := itD H
        rcases H with ⟨c12b0, H⟩ | ⟨c12b0, H⟩
        ·replace H := bA H
         obtain ⟨t230, A13, H⟩ := H
         try dsimp only at H
         by_cases c14 : t230 = 0
         ·rw [if_pos c14] at H
          have c14b0 : (t230 == 0) = true := beq_iff_eq.mpr c14
          have c14b1 : (t230 != 0) = false := bne_eq_false_iff_eq.mpr c14
          clear c14
          simp only [Option.some.injEq, Prod.mk.injEq] at H
          obtain ⟨rfl, rfl⟩ := H
          obtain ⟨⟨_, _⟩, _, _⟩ := z2 BK225
          try go_wp2_with (first | ((with_reducible refine gate_callee (f := 89) rfl ?_); refine gl_ 17 Tryd.func89 (spec_l4At.calls k1 _ _ l0_0 a0_1 x6_1 t226 _ (kC HR0_0) HC0_0.out A5.out) ?_; rintro e w16 ⟨rfl, hb⟩; refine ⟨_, rfl, ?_⟩; replace BK225 := kb_ BK225 hb; replace HB := Aside0.mk (below_step oB hb); obtain ⟨⟨_, _⟩, _, _⟩ := z2 BK225; have p227 : (0 ≤ (t226 : Int)) = True := oT; have q227 : (t226 < (l0_0.length : Int)) = True := oT; obtain ⟨ad227, A227_3, c227_3, A227_4, c227_4, A227_5, c227_5, e227, hx227_0, hx227_1, hx227_2, hx227_3, hx227_4, hx227_5, hl227_3, hi227_3, hl227_4, hi227_4, hl227_5, hi227_5⟩ := at_T64 HR0_0.out t226 oa oa; cases e227; replace hx227_0 := cB HB hx227_0; replace hx227_1 := cB HB hx227_1; replace hx227_2 := cB HB hx227_2; replace hx227_3 := cB HB hx227_3; replace hx227_4 := cB HB hx227_4; replace hx227_5 := cB HB hx227_5; have HR227_3 := Aside0.mk hi227_3; have HC227_3 := Aside0.mk hl227_3; clear hi227_3 hl227_3; have HR227_4 := Aside0.mk hi227_4; have HC227_4 := Aside0.mk hl227_4; clear hi227_4 hl227_4; have HR227_5 := Aside0.mk hi227_5; have HC227_5 := Aside0.mk hl227_5; clear hi227_5 hl227_5))
          replace BK225 := Aside0.mk (blk_drew BK225.out)
          replace HB := Aside0.mk (below_drew1 HB.out)
          have p228 : (0 ≤ (t226 : Int)) = True := oT
          have q228 : (t226 < (l0_0.length : Int)) = True := oT
          obtain ⟨ad228, A228_3, c228_3, A228_4, c228_4, A228_5, c228_5, e228, hx228_0, hx228_1, hx228_2, hx228_3, hx228_4, hx228_5, hl228_3, hi228_3, hl228_4, hi228_4, hl228_5, hi228_5⟩ := at_T64 HR0_0.out t226 oa oa
          have hw228_5 := hx228_5
          have hw228_4 := hx228_4
          have hw228_3 := hx228_3
          have hw228_2 := hx228_2
          have hw228_1 := hx228_1
          have hw228_0 := hx228_0
          obtain rfl : ad227 = ad228 := (by injection e228)
          replace hx228_0 := cB HB hx228_0
          replace hx228_1 := cB HB hx228_1
          replace hx228_2 := cB HB hx228_2
          replace hx228_3 := cB HB hx228_3
          replace hx228_4 := cB HB hx228_4
          replace hx228_5 := cB HB hx228_5
          have HR228_3 := Aside0.mk hi228_3
          have HC228_3 := Aside0.mk hl228_3
          clear hi228_3 hl228_3
          have HR228_4 := Aside0.mk hi228_4
          have HC228_4 := Aside0.mk hl228_4
          clear hi228_4 hl228_4
          have HR228_5 := Aside0.mk hi228_5
          have HC228_5 := Aside0.mk hl228_5
          clear hi228_5 hl228_5
          have p229 : (0 ≤ (x7_1 : Int)) = True := oT
          have q229 : (x7_1 < (l1.length : Int)) = True := oT
          obtain ⟨ad229, e229, hx229_0⟩ := Kd.at_string HR1.out x7_1 oa oa
          have hw229_0 := hx229_0
          cases e229
          replace hx229_0 := cB HB hx229_0
          refine st_ 11 (fun w' => w'.cell? ⟨gb225, 0, none⟩ = some (.slice (some ad227) l0_0.length c0_0) ∧ w'.cell? ⟨gb225, 1, none⟩ = some (.int .i64 a0_1) ∧ w'.cell? (ad227.add ((t226).toNat * 6)) = some (.int .i64 ((rd_T64 l0_0 t226).f0)) ∧ w'.cell? ⟨(ad227.add ((t226).toNat * 6)).block, (ad227.add ((t226).toNat * 6)).off + 1, none⟩ = some (.int .i64 ((rd_T64 l0_0 t226).f1)) ∧ w'.cell? ⟨(ad227.add ((t226).toNat * 6)).block, (ad227.add ((t226).toNat * 6)).off + 2, none⟩ = some (.int .i64 ((rd_T64 l0_0 t226).f2)) ∧ w'.cell? ⟨(ad227.add ((t226).toNat * 6)).block, (ad227.add ((t226).toNat * 6)).off + 3, none⟩ = some (.slice A228_3 ((rd_T64 l0_0 t226).f3).length c228_3) ∧ w'.cell? ⟨(ad227.add ((t226).toNat * 6)).block, (ad227.add ((t226).toNat * 6)).off + 4, none⟩ = some (.slice A228_4 ((rd_T64 l0_0 t226).f4).length c228_4) ∧ w'.cell? ⟨(ad227.add ((t226).toNat * 6)).block, (ad227.add ((t226).toNat * 6)).off + 5, none⟩ = some (.slice A228_5 ((rd_T64 l0_0 t226).f5).length c228_5) ∧ w'.cell? (ad229.add (x7_1).toNat) = some (.string (rdOf ByteArray.empty l1 x7_1))) spec_l5Walk.tab10 spec_l5Walk.bits10 ⟨(blk_cell BK225.out 0).trans rfl, (blk_cell BK225.out 1).trans rfl, (cB HB hw228_0), (cB HB hw228_1), (cB HB hw228_2), (cB HB hw228_3), (cB HB hw228_4), (cB HB hw228_5), (cB HB hw229_0)⟩ (fun hHeld HT_ HW_ => ?_)
          generalize w16.drew = w18 at BK225 HB HR228_3 HR228_4 HR228_5 hx228_0 hx228_1 hx228_2 hx228_3 hx228_4 hx228_5 hx229_0 hHeld ⊢
          refine pu_ 0 27 HT_ ?_
          refine pu_ 2 29 HT_ ?_
          refine pu_ 5 32 HT_ ?_
          refine pu_ 6 33 HT_ ?_
          refine pu_ 7 34 HT_ ?_
          refine ta_ 1 28 HT_ HW_ hHeld ?_
          refine pu_ 3 30 HT_ ?_
          refine ta_ 4 31 HT_ HW_ hHeld ?_
          refine ta_ 8 35 HT_ HW_ hHeld ?_
          refine on_ 9 36 HT_ (fun K hK => ?_)
          refine gr_ 36 Tryd.func90 (spec_EntOf.calls k1 ((rd_T64 l0_0 t226).f0) ((rd_T64 l0_0 t226).f1) ((rd_T64 l0_0 t226).f2) _ _ ((rd_T64 l0_0 t226).f3) _ _ ((rd_T64 l0_0 t226).f4) _ _ ((rd_T64 l0_0 t226).f5) (rdOf ByteArray.empty l1 x7_1) t230 _ (kC HR228_3) HC228_3.out (kC HR228_4) HC228_4.out (kC HR228_5) HC228_5.out A13.out) ?_
          rintro e w19 ⟨rfl, hb⟩
          refine ⟨_, rfl, ?_⟩
          replace BK225 := kb_ BK225 hb
          replace HB := Aside0.mk (below_step oB hb)
          refine hk_ hK 36 ⟨(blk_cell BK225.out 0).trans rfl, (blk_cell BK225.out 1).trans rfl, (cB HB hw228_0), (cB HB hw228_1), (cB HB hw228_2), (cB HB hw228_3), (cB HB hw228_4), (cB HB hw228_5), (cB HB hw229_0)⟩ (fun hHeld => ?_)
          clear hK K
          refine pu_ 10 6 HT_ ?_
          refine dn_ HT_ ?_
          try go_wp2
          go_ret2
          exact ⟨oE, oB⟩
         ·rw [if_neg c14] at H
          have c14b0 : (t230 == 0) = false := beq_eq_false_iff_ne.mpr c14
          have c14b1 : (t230 != 0) = true := bne_iff_ne.mpr c14
          have H' := Aside0.mk H
          clear H
          obtain ⟨⟨_, _⟩, _, _⟩ := z2 BK225
          try go_wp2_with (first | ((with_reducible refine gate_callee (f := 89) rfl ?_); refine gl_ 17 Tryd.func89 (spec_l4At.calls k1 _ _ l0_0 a0_1 x6_1 t226 _ (kC HR0_0) HC0_0.out A5.out) ?_; rintro e w21 ⟨rfl, hb⟩; refine ⟨_, rfl, ?_⟩; replace BK225 := kb_ BK225 hb; replace HB := Aside0.mk (below_step oB hb); obtain ⟨⟨_, _⟩, _, _⟩ := z2 BK225; have p227 : (0 ≤ (t226 : Int)) = True := oT; have q227 : (t226 < (l0_0.length : Int)) = True := oT; obtain ⟨ad227, A227_3, c227_3, A227_4, c227_4, A227_5, c227_5, e227, hx227_0, hx227_1, hx227_2, hx227_3, hx227_4, hx227_5, hl227_3, hi227_3, hl227_4, hi227_4, hl227_5, hi227_5⟩ := at_T64 HR0_0.out t226 oa oa; cases e227; replace hx227_0 := cB HB hx227_0; replace hx227_1 := cB HB hx227_1; replace hx227_2 := cB HB hx227_2; replace hx227_3 := cB HB hx227_3; replace hx227_4 := cB HB hx227_4; replace hx227_5 := cB HB hx227_5; have HR227_3 := Aside0.mk hi227_3; have HC227_3 := Aside0.mk hl227_3; clear hi227_3 hl227_3; have HR227_4 := Aside0.mk hi227_4; have HC227_4 := Aside0.mk hl227_4; clear hi227_4 hl227_4; have HR227_5 := Aside0.mk hi227_5; have HC227_5 := Aside0.mk hl227_5; clear hi227_5 hl227_5))
          replace BK225 := Aside0.mk (blk_drew BK225.out)
          replace HB := Aside0.mk (below_drew1 HB.out)
          have p228 : (0 ≤ (t226 : Int)) = True := oT
          have q228 : (t226 < (l0_0.length : Int)) = True := oT
          obtain ⟨ad228, A228_3, c228_3, A228_4, c228_4, A228_5, c228_5, e228, hx228_0, hx228_1, hx228_2, hx228_3, hx228_4, hx228_5, hl228_3, hi228_3, hl228_4, hi228_4, hl228_5, hi228_5⟩ := at_T64 HR0_0.out t226 oa oa
          have hw228_5 := hx228_5
          have hw228_4 := hx228_4
          have hw228_3 := hx228_3
          have hw228_2 := hx228_2
          have hw228_1 := hx228_1
          have hw228_0 := hx228_0
          obtain rfl : ad227 = ad228 := (by injection e228)
          replace hx228_0 := cB HB hx228_0
          replace hx228_1 := cB HB hx228_1
          replace hx228_2 := cB HB hx228_2
          replace hx228_3 := cB HB hx228_3
          replace hx228_4 := cB HB hx228_4
          replace hx228_5 := cB HB hx228_5
          have HR228_3 := Aside0.mk hi228_3
          have HC228_3 := Aside0.mk hl228_3
          clear hi228_3 hl228_3
          have HR228_4 := Aside0.mk hi228_4
          have HC228_4 := Aside0.mk hl228_4
          clear hi228_4 hl228_4
          have HR228_5 := Aside0.mk hi228_5
          have HC228_5 := Aside0.mk hl228_5
          clear hi228_5 hl228_5
          have p229 : (0 ≤ (x7_1 : Int)) = True := oT
          have q229 : (x7_1 < (l1.length : Int)) = True := oT
          obtain ⟨ad229, e229, hx229_0⟩ := Kd.at_string HR1.out x7_1 oa oa
          have hw229_0 := hx229_0
          cases e229
          replace hx229_0 := cB HB hx229_0
          refine st_ 11 (fun w' => w'.cell? ⟨gb225, 0, none⟩ = some (.slice (some ad227) l0_0.length c0_0) ∧ w'.cell? ⟨gb225, 1, none⟩ = some (.int .i64 a0_1) ∧ w'.cell? (ad227.add ((t226).toNat * 6)) = some (.int .i64 ((rd_T64 l0_0 t226).f0)) ∧ w'.cell? ⟨(ad227.add ((t226).toNat * 6)).block, (ad227.add ((t226).toNat * 6)).off + 1, none⟩ = some (.int .i64 ((rd_T64 l0_0 t226).f1)) ∧ w'.cell? ⟨(ad227.add ((t226).toNat * 6)).block, (ad227.add ((t226).toNat * 6)).off + 2, none⟩ = some (.int .i64 ((rd_T64 l0_0 t226).f2)) ∧ w'.cell? ⟨(ad227.add ((t226).toNat * 6)).block, (ad227.add ((t226).toNat * 6)).off + 3, none⟩ = some (.slice A228_3 ((rd_T64 l0_0 t226).f3).length c228_3) ∧ w'.cell? ⟨(ad227.add ((t226).toNat * 6)).block, (ad227.add ((t226).toNat * 6)).off + 4, none⟩ = some (.slice A228_4 ((rd_T64 l0_0 t226).f4).length c228_4) ∧ w'.cell? ⟨(ad227.add ((t226).toNat * 6)).block, (ad227.add ((t226).toNat * 6)).off + 5, none⟩ = some (.slice A228_5 ((rd_T64 l0_0 t226).f5).length c228_5) ∧ w'.cell? (ad229.add (x7_1).toNat) = some (.string (rdOf ByteArray.empty l1 x7_1))) spec_l5Walk.tab10 spec_l5Walk.bits10 ⟨(blk_cell BK225.out 0).trans rfl, (blk_cell BK225.out 1).trans rfl, (cB HB hw228_0), (cB HB hw228_1), (cB HB hw228_2), (cB HB hw228_3), (cB HB hw228_4), (cB HB hw228_5), (cB HB hw229_0)⟩ (fun hHeld HT_ HW_ => ?_)
          generalize w21.drew = w23 at BK225 HB HR228_3 HR228_4 HR228_5 hx228_0 hx228_1 hx228_2 hx228_3 hx228_4 hx228_5 hx229_0 hHeld ⊢
          refine pu_ 0 27 HT_ ?_
          refine pu_ 2 29 HT_ ?_
          refine pu_ 5 32 HT_ ?_
          refine pu_ 6 33 HT_ ?_
          refine pu_ 7 34 HT_ ?_
          refine ta_ 1 28 HT_ HW_ hHeld ?_
          refine pu_ 3 30 HT_ ?_
          refine ta_ 4 31 HT_ HW_ hHeld ?_
          refine ta_ 8 35 HT_ HW_ hHeld ?_
          refine on_ 9 36 HT_ (fun K hK => ?_)
          refine gr_ 36 Tryd.func90 (spec_EntOf.calls k1 ((rd_T64 l0_0 t226).f0) ((rd_T64 l0_0 t226).f1) ((rd_T64 l0_0 t226).f2) _ _ ((rd_T64 l0_0 t226).f3) _ _ ((rd_T64 l0_0 t226).f4) _ _ ((rd_T64 l0_0 t226).f5) (rdOf ByteArray.empty l1 x7_1) t230 _ (kC HR228_3) HC228_3.out (kC HR228_4) HC228_4.out (kC HR228_5) HC228_5.out A13.out) ?_
          rintro e w24 ⟨rfl, hb⟩
          refine ⟨_, rfl, ?_⟩
          replace BK225 := kb_ BK225 hb
          replace HB := Aside0.mk (below_step oB hb)
          refine hk_ hK 36 ⟨(blk_cell BK225.out 0).trans rfl, (blk_cell BK225.out 1).trans rfl, (cB HB hw228_0), (cB HB hw228_1), (cB HB hw228_2), (cB HB hw228_3), (cB HB hw228_4), (cB HB hw228_5), (cB HB hw229_0)⟩ (fun hHeld => ?_)
          clear hK K
          refine pu_ 10 6 HT_ ?_
          refine dn_ HT_ ?_
          try go_wp2
          go_roundg k1
          case measure => have := HK1.out; omega
          case rel => exact ⟨(t230), (wrap64 (x7_1 + 1)), oS, oS, H', ⟨by have := HK1.out; omega⟩, ⟨oF BK225⟩, ⟨oB⟩⟩
        ·cases H
       ·rw [if_neg c11] at H
        have c11b0 : (((rd_T64 l0_0 t226).f1) == 2) = false := beq_eq_false_iff_ne.mpr c11
        have c11b1 : (((rd_T64 l0_0 t226).f1) != 2) = true := bne_iff_ne.mpr c11
        simp only [Option.some.injEq, Prod.mk.injEq] at H
        obtain ⟨rfl, rfl⟩ := H
        obtain ⟨⟨_, _⟩, _, _⟩ := z2 BK225
        go_wp2_with (first | ((with_reducible refine gate_callee (f := 89) rfl ?_); refine gl_ 17 Tryd.func89 (spec_l4At.calls k1 _ _ l0_0 a0_1 x6_1 t226 _ (kC HR0_0) HC0_0.out A5.out) ?_; rintro e w26 ⟨rfl, hb⟩; refine ⟨_, rfl, ?_⟩; replace BK225 := kb_ BK225 hb; replace HB := Aside0.mk (below_step oB hb); obtain ⟨⟨_, _⟩, _, _⟩ := z2 BK225; have p227 : (0 ≤ (t226 : Int)) = True := oT; have q227 : (t226 < (l0_0.length : Int)) = True := oT; obtain ⟨ad227, A227_3, c227_3, A227_4, c227_4, A227_5, c227_5, e227, hx227_0, hx227_1, hx227_2, hx227_3, hx227_4, hx227_5, hl227_3, hi227_3, hl227_4, hi227_4, hl227_5, hi227_5⟩ := at_T64 HR0_0.out t226 oa oa; cases e227; replace hx227_0 := cB HB hx227_0; replace hx227_1 := cB HB hx227_1; replace hx227_2 := cB HB hx227_2; replace hx227_3 := cB HB hx227_3; replace hx227_4 := cB HB hx227_4; replace hx227_5 := cB HB hx227_5; have HR227_3 := Aside0.mk hi227_3; have HC227_3 := Aside0.mk hl227_3; clear hi227_3 hl227_3; have HR227_4 := Aside0.mk hi227_4; have HC227_4 := Aside0.mk hl227_4; clear hi227_4 hl227_4; have HR227_5 := Aside0.mk hi227_5; have HC227_5 := Aside0.mk hl227_5; clear hi227_5 hl227_5))
        go_ret2
        exact ⟨oE, oB⟩
      ·cases H
     ·cases H
   ·simp only [Option.some.injEq, Prod.mk.injEq] at H
    obtain ⟨rfl, rfl⟩ := H
    go_wp2
    go_ret2
    exact ⟨oE, oB⟩

/-! ### spec_Walk: function 33 -/
def spec_Walk.f (k : Nat) (l0_0 : List (S64)) (a0_1 : Int) (a1 : ByteArray) : Option (Int × Int) := (spec_SplitPath.f k a1).bind fun bt232 => (if bt232.2 = true then ((spec_l5Walk.f k l0_0 a0_1 bt232.1).bind fun bt236 => (some (bt236.1, bt236.2))) else (some (0, 1)))
set_option maxHeartbeats 8000000 in
set_option maxRecDepth 100000 in
theorem spec_Walk.calls (k : Nat) (A0_0 : Option Addr) (c0_0 : Nat) (l0_0 : List (S64)) (a0_1 : Int) (a1 : ByteArray) (r1 : Int) (r2 : Int) (w : World) (hr0_0 : Kd.C k64 w A0_0 l0_0.length l0_0) (hc0_0 : l0_0.length ≤ c0_0) (h : spec_Walk.f k l0_0 a0_1 a1 = some (r1, r2)) :
  Calls Tryd.prog 33 #[.agg #[.slice A0_0 l0_0.length c0_0, .int .i64 a0_1], .string a1] w fun e w' => e = .returned (.tuple #[.int .i64 r1, .int .i64 r2]) ∧ Below w.heap.size w w' := by
 have hu46 := Tryd.underlying46
 have HR0_0 := Aside0.mk hr0_0
 have HC0_0 := Aside0.mk hc0_0
 clear hr0_0 hc0_0
 have HB := Aside0.mk (Below.refl w.heap.size w)
 unfold spec_Walk.f at h
 have H := h
 clear h
 replace H := bA H
 obtain ⟨⟨t232, t233⟩, A3, H⟩ := H
 try dsimp only at H
 replace H := itB H
 rcases H with ⟨rfl, H⟩ | ⟨rfl, H⟩
 ·replace H := bA H
  obtain ⟨⟨t236, t237⟩, A5, H⟩ := H
  try dsimp only at H
  simp only [Option.some.injEq, Prod.mk.injEq] at H
  obtain ⟨rfl, rfl⟩ := H
  go_enter Tryd.func33, Tryd.ntmps33
  go_wp2_with (first | ((with_reducible refine gate_dst (N := 2) rfl ?_); refine bx_ 2 #[.slice A0_0 l0_0.length c0_0, .int .i64 a0_1] 46 ?_; intro gb231 hg w6 hbox hb; have BK231 := Aside0.mk (hbox); have GW231 := gs_ hg; have GE231 := gs_ hg; replace HB := Aside0.mk (below_step oB hb); clear hb hbox hg) | ((with_reducible refine gate_callee (f := 16) rfl ?_); refine gl_ 10 Tryd.func16 (spec_SplitPath.calls k a1 t232 true _ A3.out) ?_; rintro e w7 ⟨v234, rfl, ho0, hb⟩; refine ⟨_, rfl, ?_⟩; have HO235 := Aside0.mk (Kd.R_lower ho0 (below_size oB)); replace BK231 := kb_ BK231 hb; replace HB := Aside0.mk (below_step oB hb); obtain ⟨⟨_, _⟩, _, _⟩ := z2 BK231; obtain ⟨Ao9, co9, eo9⟩ := Kd.R_slice HO235.out; subst eo9) | ((with_reducible refine gate_callee (f := 65) rfl ?_); refine gl_ 17 Tryd.func65 (spec_l5Walk.calls k _ _ l0_0 a0_1 _ _ t232 t236 t237 _ (kC HR0_0) HC0_0.out (kO HO235) (ko HO235) A5.out) ?_; rintro e w10 ⟨rfl, hb⟩; refine ⟨_, rfl, ?_⟩; replace HO235 := kr_ HO235 hb; replace BK231 := kb_ BK231 hb; replace HB := Aside0.mk (below_step oB hb)))
  go_ret2
  exact ⟨oE, oB⟩
 ·simp only [Option.some.injEq, Prod.mk.injEq] at H
  obtain ⟨rfl, rfl⟩ := H
  go_enter Tryd.func33, Tryd.ntmps33
  go_wp2_with (first | ((with_reducible refine gate_dst (N := 2) rfl ?_); refine bx_ 2 #[.slice A0_0 l0_0.length c0_0, .int .i64 a0_1] 46 ?_; intro gb231 hg w11 hbox hb; have BK231 := Aside0.mk (hbox); have GW231 := gs_ hg; have GE231 := gs_ hg; replace HB := Aside0.mk (below_step oB hb); clear hb hbox hg) | ((with_reducible refine gate_callee (f := 16) rfl ?_); refine gl_ 10 Tryd.func16 (spec_SplitPath.calls k a1 t232 false _ A3.out) ?_; rintro e w12 ⟨v234, rfl, ho0, hb⟩; refine ⟨_, rfl, ?_⟩; have HO235 := Aside0.mk (Kd.R_lower ho0 (below_size oB)); replace BK231 := kb_ BK231 hb; replace HB := Aside0.mk (below_step oB hb)))
  go_ret2
  exact ⟨oE, oB⟩

/-! ### spec_l3Copy: function 94 -/
def spec_l3Copy.f (a0_0 : Int) (a0_1 : Int) (a0_2 : Int) (l0_3 : List Int) (l0_4 : List (S91)) (l0_5 : List (S87)) : Option (Int × Int × Int × List Int × (List (S91)) × (List (S87))) := (some (([] : List Int) : List Int)).bind fun y241 => (if y241.length + l0_3.length < 140737488355328 then ((some (([] : List (S91)) : List (S91))).bind fun y247 => (if y247.length + l0_4.length < 5864062014805 then ((some (([] : List (S87)) : List (S87))).bind fun y253 => (if y253.length + l0_5.length < 4398046511104 then (some (a0_0, a0_1, a0_2, (y241 ++ l0_3), (y247 ++ l0_4), (y253 ++ l0_5))) else (none))) else (none))) else (none))
set_option maxHeartbeats 8000000 in
set_option maxRecDepth 100000 in
theorem spec_l3Copy.calls (a0_0 : Int) (a0_1 : Int) (a0_2 : Int) (A0_3 : Option Addr) (c0_3 : Nat) (l0_3 : List Int) (A0_4 : Option Addr) (c0_4 : Nat) (l0_4 : List (S91)) (A0_5 : Option Addr) (c0_5 : Nat) (l0_5 : List (S87)) (r1 : Int) (r2 : Int) (r3 : Int) (r4 : List Int) (r5 : List (S91)) (r6 : List (S87)) (w : World) (hr0_3 : Kd.C (Kd.int .u8) w A0_3 l0_3.length l0_3) (hc0_3 : l0_3.length ≤ c0_3) (hr0_4 : Kd.C k91 w A0_4 l0_4.length l0_4) (hc0_4 : l0_4.length ≤ c0_4) (hr0_5 : Kd.C k87 w A0_5 l0_5.length l0_5) (hc0_5 : l0_5.length ≤ c0_5) (h : spec_l3Copy.f a0_0 a0_1 a0_2 l0_3 l0_4 l0_5 = some (r1, r2, r3, r4, r5, r6)) :
  Calls Tryd.prog 94 #[.agg #[.int .i64 a0_0, .int .i64 a0_1, .int .i64 a0_2, .slice A0_3 l0_3.length c0_3, .slice A0_4 l0_4.length c0_4, .slice A0_5 l0_5.length c0_5]] w fun e w' => ∃ v3_ v4_ v5_ : Value, e = .returned (.agg #[.int .i64 r1, .int .i64 r2, .int .i64 r3, v3_, v4_, v5_]) ∧ Kd.R (Kd.int .u8) 5 w' w.heap.size (fun _ => True) v3_ r4 ∧ Kd.R k91 91 w' w.heap.size (fun _ => True) v4_ r5 ∧ Kd.R k87 87 w' w.heap.size (fun _ => True) v5_ r6 ∧ Below w.heap.size w w' := by
 have hu64 := Tryd.underlying64
 have HR0_3 := Aside0.mk hr0_3
 have HC0_3 := Aside0.mk hc0_3
 clear hr0_3 hc0_3
 have HR0_4 := Aside0.mk hr0_4
 have HC0_4 := Aside0.mk hc0_4
 clear hr0_4 hc0_4
 have HR0_5 := Aside0.mk hr0_5
 have HC0_5 := Aside0.mk hc0_5
 clear hr0_5 hc0_5
 have HB := Aside0.mk (Below.refl w.heap.size w)
 unfold spec_l3Copy.f at h
 have H := h
 clear h
 obtain ⟨y241, hy241⟩ : ∃ y_ : List Int, y_ = (([] : List Int)) := ⟨_, rfl⟩
 replace H : (if y241.length + l0_3.length < 140737488355328 then ((some (([] : List (S91)) : List (S91))).bind fun y247 => (if y247.length + l0_4.length < 5864062014805 then ((some (([] : List (S87)) : List (S87))).bind fun y253 => (if y253.length + l0_5.length < 4398046511104 then (some (a0_0, a0_1, a0_2, (y241 ++ l0_3), (y247 ++ l0_4), (y253 ++ l0_5))) else (none))) else (none))) else (none)) = some (r1, r2, r3, r4, r5, r6) := by first | (rw [hy241]; with_reducible exact H) | (have H2_ := (Option.bind_some _ _).symm.trans H; rw [hy241]; with_reducible exact H2_) | (have H2_ := (Option.bind_some _ _).symm.trans H; with_reducible exact H2_) | with_reducible exact H | (rw [hy241]; exact H) | exact H
 have Ny241 := Aside0.mk hy241
 clear hy241
 by_cases c2 : y241.length + l0_3.length < 140737488355328
 ·rw [if_pos c2] at H
  have LMc2 := Aside0.mk c2
  clear c2
  obtain ⟨y244, hy244⟩ : ∃ y_ : List Int, y_ = (y241 ++ l0_3) := ⟨_, rfl⟩
  replace H : ((some (([] : List (S91)) : List (S91))).bind fun y247 => (if y247.length + l0_4.length < 5864062014805 then ((some (([] : List (S87)) : List (S87))).bind fun y253 => (if y253.length + l0_5.length < 4398046511104 then (some (a0_0, a0_1, a0_2, y244, (y247 ++ l0_4), (y253 ++ l0_5))) else (none))) else (none))) = some (r1, r2, r3, r4, r5, r6) := by first | (rw [hy244]; with_reducible exact H) | (have H2_ := (Option.bind_some _ _).symm.trans H; rw [hy244]; with_reducible exact H2_) | (have H2_ := (Option.bind_some _ _).symm.trans H; with_reducible exact H2_) | with_reducible exact H | (rw [hy244]; exact H) | exact H
  have Ny244 := Aside0.mk hy244
  clear hy244
  obtain ⟨y247, hy247⟩ : ∃ y_ : List (S91), y_ = (([] : List (S91))) := ⟨_, rfl⟩
  replace H : (if y247.length + l0_4.length < 5864062014805 then ((some (([] : List (S87)) : List (S87))).bind fun y253 => (if y253.length + l0_5.length < 4398046511104 then (some (a0_0, a0_1, a0_2, y244, (y247 ++ l0_4), (y253 ++ l0_5))) else (none))) else (none)) = some (r1, r2, r3, r4, r5, r6) := by first | (rw [hy247]; with_reducible exact H) | (have H2_ := (Option.bind_some _ _).symm.trans H; rw [hy247]; with_reducible exact H2_) | (have H2_ := (Option.bind_some _ _).symm.trans H; with_reducible exact H2_) | with_reducible exact H | (rw [hy247]; exact H) | exact H
  have Ny247 := Aside0.mk hy247
  clear hy247
  by_cases c3 : y247.length + l0_4.length < 5864062014805
  ·rw [if_pos c3] at H
   have LMc3 := Aside0.mk c3
   clear c3
   obtain ⟨y250, hy250⟩ : ∃ y_ : List (S91), y_ = (y247 ++ l0_4) := ⟨_, rfl⟩
   replace H : ((some (([] : List (S87)) : List (S87))).bind fun y253 => (if y253.length + l0_5.length < 4398046511104 then (some (a0_0, a0_1, a0_2, y244, y250, (y253 ++ l0_5))) else (none))) = some (r1, r2, r3, r4, r5, r6) := by first | (rw [hy250]; with_reducible exact H) | (have H2_ := (Option.bind_some _ _).symm.trans H; rw [hy250]; with_reducible exact H2_) | (have H2_ := (Option.bind_some _ _).symm.trans H; with_reducible exact H2_) | with_reducible exact H | (rw [hy250]; exact H) | exact H
   have Ny250 := Aside0.mk hy250
   clear hy250
   obtain ⟨y253, hy253⟩ : ∃ y_ : List (S87), y_ = (([] : List (S87))) := ⟨_, rfl⟩
   replace H : (if y253.length + l0_5.length < 4398046511104 then (some (a0_0, a0_1, a0_2, y244, y250, (y253 ++ l0_5))) else (none)) = some (r1, r2, r3, r4, r5, r6) := by first | (rw [hy253]; with_reducible exact H) | (have H2_ := (Option.bind_some _ _).symm.trans H; rw [hy253]; with_reducible exact H2_) | (have H2_ := (Option.bind_some _ _).symm.trans H; with_reducible exact H2_) | with_reducible exact H | (rw [hy253]; exact H) | exact H
   have Ny253 := Aside0.mk hy253
   clear hy253
   by_cases c4 : y253.length + l0_5.length < 4398046511104
   ·rw [if_pos c4] at H
    have LMc4 := Aside0.mk c4
    clear c4
    obtain ⟨y256, hy256⟩ : ∃ y_ : List (S87), y_ = (y253 ++ l0_5) := ⟨_, rfl⟩
    replace H : (some (a0_0, a0_1, a0_2, y244, y250, y256)) = some (r1, r2, r3, r4, r5, r6) := by first | (rw [hy256]; with_reducible exact H) | (have H2_ := (Option.bind_some _ _).symm.trans H; rw [hy256]; with_reducible exact H2_) | (have H2_ := (Option.bind_some _ _).symm.trans H; with_reducible exact H2_) | with_reducible exact H | (rw [hy256]; exact H) | exact H
    have Ny256 := Aside0.mk hy256
    clear hy256
    simp only [Option.some.injEq, Prod.mk.injEq] at H
    obtain ⟨rfl, rfl, rfl, rfl, rfl, rfl⟩ := H
    go_enter Tryd.func94, Tryd.ntmps94
    go_wp2_with (first | ((with_reducible refine gate_dst (N := 1) rfl ?_); refine bx_ 1 #[.int .i64 a0_0, .int .i64 a0_1, .int .i64 a0_2, .slice A0_3 l0_3.length c0_3, .slice A0_4 l0_4.length c0_4, .slice A0_5 l0_5.length c0_5] 64 ?_; intro gb238 hg w5 hbox hb; have BK238 := Aside0.mk (hbox); have GW238 := gs_ hg; have GE238 := gs_ hg; replace HB := Aside0.mk (below_step oB hb); clear hb hbox hg) | ((with_reducible refine gate_dst (N := 2) rfl ?_); refine bx_ 2 #[.int .i64 0, .int .i64 0, .int .i64 0, .slice none 0 0, .slice none 0 0, .slice none 0 0] 64 ?_; intro gb239 hg w6 hbox hb; have BK239 := Aside0.mk (hbox); have GW239 := gs_ hg; have GE239 := gs_ hg; have NB238_239 := nl_ hg BK238; have NB239_238 := nr_ hg BK238; replace BK238 := kb_ BK238 hb; replace HB := Aside0.mk (below_step oB hb); clear hb hbox hg; have hnb7 := NB238_239.out; have hnc7 := NB239_238.out; obtain ⟨⟨_, _, _, _, _, _⟩, _, _, _, _, _, _⟩ := z6 BK238) | ((with_reducible refine gate_dst (N := 3) rfl ?_); refine bx_ 3 #[.int .i64 0, .int .i64 0, .int .i64 0, .slice none 0 0, .slice none 0 0, .slice none 0 0] 64 ?_; intro gb240 hg w9 hbox hb; have BK240 := Aside0.mk (hbox); have GW240 := gs_ hg; have GE240 := gs_ hg; have NB238_240 := nl_ hg BK238; have NB240_238 := nr_ hg BK238; have NB239_240 := nl_ hg BK239; have NB240_239 := nr_ hg BK239; replace BK238 := kb_ BK238 hb; replace BK239 := kb_ BK239 hb; replace HB := Aside0.mk (below_step oB hb); clear hb hbox hg; have hnb10 := NB240_238.out; have hnc10 := NB238_240.out; have hnb11 := NB240_239.out; have hnc11 := NB239_240.out; obtain ⟨⟨_, _, _, _, _, _⟩, _, _, _, _, _, _⟩ := z6 BK240) | ((with_reducible refine gate_dst (N := 5) rfl ?_); refine Kd.R_lit (Kd.int .u8) _ 5 ?hg (N := 5) ?hd (xs := ([] : List Int)) (inner := []) (ok := fun _ => True) (okp := fun _ => True) ?hr ?hp (fun _ hk => hk) trivial (Below.refl _ _) (Nat.le_refl _) (by simp) ?_; (case hd => rfl); (case hg => rfl); (case hr => first | (go_simp; done) | (go_simp; rfl)); (case hp => exact (Reps.none _ _)); intro v242 w13 ho14 hb hg_ hnew_; clear hg_ hnew_; (first | rw [← Ny241.out] at ho14 | (simp only [Int.reduceToNat] at ho14; rw [← Ny241.out] at ho14)); have HO243 := Aside0.mk (Kd.R_lower ho14 (below_size oB)); replace BK238 := Aside0.mk (blk_below (g := gb238) (o := .cells #[.int .i64 a0_0, .int .i64 a0_1, .int .i64 a0_2, .slice A0_3 l0_3.length c0_3, .slice A0_4 l0_4.length c0_4, .slice A0_5 l0_5.length c0_5] 64 (0, 0)) (by (with_reducible repeat (first | refine blk_drewN ?_ _ | refine blk_drew ?_ | refine blk_alloc ?_ _)); refine blk_far ?_ NB238_240.out _; (with_reducible repeat (first | refine blk_drewN ?_ _ | refine blk_drew ?_ | refine blk_alloc ?_ _)); refine blk_far ?_ NB238_240.out _; (with_reducible repeat (first | refine blk_drewN ?_ _ | refine blk_drew ?_ | refine blk_alloc ?_ _)); refine blk_far ?_ NB238_240.out _; (with_reducible repeat (first | refine blk_drewN ?_ _ | refine blk_drew ?_ | refine blk_alloc ?_ _)); refine blk_far ?_ NB238_240.out _; (with_reducible repeat (first | refine blk_drewN ?_ _ | refine blk_drew ?_ | refine blk_alloc ?_ _)); refine blk_far ?_ NB238_240.out _; (with_reducible repeat (first | refine blk_drewN ?_ _ | refine blk_drew ?_ | refine blk_alloc ?_ _)); refine blk_far ?_ NB238_240.out _; (with_reducible repeat (first | refine blk_drewN ?_ _ | refine blk_drew ?_ | refine blk_alloc ?_ _)); exact BK238.out) hb); replace BK239 := Aside0.mk (blk_below (g := gb239) (o := .cells #[.int .i64 0, .int .i64 0, .int .i64 0, .slice none 0 0, .slice none 0 0, .slice none 0 0] 64 (0, 0)) (by (with_reducible repeat (first | refine blk_drewN ?_ _ | refine blk_drew ?_ | refine blk_alloc ?_ _)); refine blk_far ?_ NB239_240.out _; (with_reducible repeat (first | refine blk_drewN ?_ _ | refine blk_drew ?_ | refine blk_alloc ?_ _)); refine blk_far ?_ NB239_240.out _; (with_reducible repeat (first | refine blk_drewN ?_ _ | refine blk_drew ?_ | refine blk_alloc ?_ _)); refine blk_far ?_ NB239_240.out _; (with_reducible repeat (first | refine blk_drewN ?_ _ | refine blk_drew ?_ | refine blk_alloc ?_ _)); refine blk_far ?_ NB239_240.out _; (with_reducible repeat (first | refine blk_drewN ?_ _ | refine blk_drew ?_ | refine blk_alloc ?_ _)); refine blk_far ?_ NB239_240.out _; (with_reducible repeat (first | refine blk_drewN ?_ _ | refine blk_drew ?_ | refine blk_alloc ?_ _)); refine blk_far ?_ NB239_240.out _; (with_reducible repeat (first | refine blk_drewN ?_ _ | refine blk_drew ?_ | refine blk_alloc ?_ _)); exact BK239.out) hb); replace BK240 := Aside0.mk (blk_below (g := gb240) (o := .cells #[.int .i64 a0_0, .int .i64 a0_1, .int .i64 a0_2, .slice A0_3 l0_3.length c0_3, .slice A0_4 l0_4.length c0_4, .slice A0_5 l0_5.length c0_5] 64 (0, 0)) (by (with_reducible repeat (first | refine blk_drewN ?_ _ | refine blk_drew ?_ | refine blk_alloc ?_ _)); refine blk_put (cs := #[.int .i64 a0_0, .int .i64 a0_1, .int .i64 a0_2, .slice A0_3 l0_3.length c0_3, .slice A0_4 l0_4.length c0_4, .slice none 0 0]) ?_ 5 _ rfl; (with_reducible repeat (first | refine blk_drewN ?_ _ | refine blk_drew ?_ | refine blk_alloc ?_ _)); refine blk_put (cs := #[.int .i64 a0_0, .int .i64 a0_1, .int .i64 a0_2, .slice A0_3 l0_3.length c0_3, .slice none 0 0, .slice none 0 0]) ?_ 4 _ rfl; (with_reducible repeat (first | refine blk_drewN ?_ _ | refine blk_drew ?_ | refine blk_alloc ?_ _)); refine blk_put (cs := #[.int .i64 a0_0, .int .i64 a0_1, .int .i64 a0_2, .slice none 0 0, .slice none 0 0, .slice none 0 0]) ?_ 3 _ rfl; (with_reducible repeat (first | refine blk_drewN ?_ _ | refine blk_drew ?_ | refine blk_alloc ?_ _)); refine blk_put (cs := #[.int .i64 a0_0, .int .i64 a0_1, .int .i64 0, .slice none 0 0, .slice none 0 0, .slice none 0 0]) ?_ 2 _ rfl; (with_reducible repeat (first | refine blk_drewN ?_ _ | refine blk_drew ?_ | refine blk_alloc ?_ _)); refine blk_put (cs := #[.int .i64 a0_0, .int .i64 0, .int .i64 0, .slice none 0 0, .slice none 0 0, .slice none 0 0]) ?_ 1 _ rfl; (with_reducible repeat (first | refine blk_drewN ?_ _ | refine blk_drew ?_ | refine blk_alloc ?_ _)); refine blk_put (cs := #[.int .i64 0, .int .i64 0, .int .i64 0, .slice none 0 0, .slice none 0 0, .slice none 0 0]) ?_ 0 _ rfl; (with_reducible repeat (first | refine blk_drewN ?_ _ | refine blk_drew ?_ | refine blk_alloc ?_ _)); exact BK240.out) hb); replace HB := Aside0.mk (below_step oB hb); clear hb ho14; obtain ⟨⟨_, _, _, _, _, _⟩, _, _, _, _, _, _⟩ := z6 BK238) | ((with_reducible refine gate_builtin (b := .append) (xs := #[.tmp 5, .tmp 7]) rfl ?_); at_builtin; refine Kd.R_append_rows (Kd.int .u8) (w0 := w) w.heap.size rfl (.tmp 5) (.tmp 7) 29 5 (.int .u8 0) 1 rfl Tryd.underlying29 info5 rfl (by decide) (by omega) v242 y241 l0_3 _ _ _ (fun _ => True) (fun _ => False) rfl rfl ?aO ?aR (fun _ _ h => h) (fun _ h => h.elim) ?aF ?aB ?aS ?aL ?_; (case aR => repeat (first | exact (Kd.C_below HR0_3.out HB.out) | (with_reducible refine Kd.C_alloc ?_ _) | (with_reducible refine Kd.C_drewN ?_ _) | (with_reducible refine Kd.C_drew ?_))); (case aB => exact oB); (case aF => exact (fun _ _ => trivial)); (case aO => exact (oR HO243)); (case aS => exact (below_size oB)); (case aL => have := LMc2.out; omega); intro v245 w16 ho hb hg hat; rw [← Ny244.out] at ho; have HO246 := Aside0.mk (ho); replace BK238 := Aside0.mk (blk_grown (g := gb238) (o := .cells #[.int .i64 a0_0, .int .i64 a0_1, .int .i64 a0_2, .slice A0_3 l0_3.length c0_3, .slice A0_4 l0_4.length c0_4, .slice A0_5 l0_5.length c0_5] 64 (0, 0)) (oF BK238) hg (Kd.R_ne HO243.out BK238.out (by decide))); replace BK239 := Aside0.mk (blk_grown (g := gb239) (o := .cells #[.int .i64 0, .int .i64 0, .int .i64 0, .slice none 0 0, .slice none 0 0, .slice none 0 0] 64 (0, 0)) (oF BK239) hg (Kd.R_ne HO243.out BK239.out (by decide))); replace BK240 := Aside0.mk (blk_grown (g := gb240) (o := .cells #[.int .i64 a0_0, .int .i64 a0_1, .int .i64 a0_2, .slice A0_3 l0_3.length c0_3, .slice A0_4 l0_4.length c0_4, .slice A0_5 l0_5.length c0_5] 64 (0, 0)) (oF BK240) hg (Kd.R_ne HO243.out BK240.out (by decide))); replace HB := Aside0.mk (hb); clear HO243; clear ho hb hg hat; obtain ⟨Ao17, co17, eo17⟩ := Kd.R_slice HO246.out; subst eo17; obtain ⟨⟨_, _, _, _, _, _⟩, _, _, _, _, _, _⟩ := z6 BK240) | ((with_reducible refine gate_dst (N := 10) rfl ?_); refine Kd.R_lit k91 _ 91 ?hg (N := 10) ?hd (xs := ([] : List (S91))) (inner := []) (ok := fun _ => True) (okp := fun _ => True) ?hr ?hp (fun _ hk => hk) trivial (Below.refl _ _) (Nat.le_refl _) (by simp) ?_; (case hd => rfl); (case hg => rfl); (case hr => first | (go_simp; done) | (go_simp; rfl)); (case hp => exact (Reps.none _ _)); intro v248 w19 ho20 hb hg_ hnew_; clear hg_ hnew_; (first | rw [← Ny247.out] at ho20 | (simp only [Int.reduceToNat] at ho20; rw [← Ny247.out] at ho20)); have HO249 := Aside0.mk (Kd.R_lower ho20 (below_size oB)); replace HO246 := Aside0.mk (Kd.R_below (by (with_reducible repeat (first | apply Kd.R_alloc | apply Kd.R_drewN | apply Kd.R_drew)); exact (Kd.R_mono (Kd.R_far (p := ⟨gb240, 3, none⟩) (Kd.R_types HO246.out BK240.out (by decide)) (fun _ hk => hk.2) (.slice Ao17 y244.length co17)) (fun _ h_ => h_.1))) hb); replace BK238 := Aside0.mk (blk_below (g := gb238) (o := .cells #[.int .i64 a0_0, .int .i64 a0_1, .int .i64 a0_2, .slice A0_3 l0_3.length c0_3, .slice A0_4 l0_4.length c0_4, .slice A0_5 l0_5.length c0_5] 64 (0, 0)) (by (with_reducible repeat (first | refine blk_drewN ?_ _ | refine blk_drew ?_ | refine blk_alloc ?_ _)); refine blk_far ?_ NB238_240.out _; (with_reducible repeat (first | refine blk_drewN ?_ _ | refine blk_drew ?_ | refine blk_alloc ?_ _)); exact BK238.out) hb); replace BK239 := Aside0.mk (blk_below (g := gb239) (o := .cells #[.int .i64 0, .int .i64 0, .int .i64 0, .slice none 0 0, .slice none 0 0, .slice none 0 0] 64 (0, 0)) (by (with_reducible repeat (first | refine blk_drewN ?_ _ | refine blk_drew ?_ | refine blk_alloc ?_ _)); refine blk_far ?_ NB239_240.out _; (with_reducible repeat (first | refine blk_drewN ?_ _ | refine blk_drew ?_ | refine blk_alloc ?_ _)); exact BK239.out) hb); replace BK240 := Aside0.mk (blk_below (g := gb240) (o := .cells #[.int .i64 a0_0, .int .i64 a0_1, .int .i64 a0_2, .slice Ao17 y244.length co17, .slice A0_4 l0_4.length c0_4, .slice A0_5 l0_5.length c0_5] 64 (0, 0)) (by (with_reducible repeat (first | refine blk_drewN ?_ _ | refine blk_drew ?_ | refine blk_alloc ?_ _)); refine blk_put (cs := #[.int .i64 a0_0, .int .i64 a0_1, .int .i64 a0_2, .slice A0_3 l0_3.length c0_3, .slice A0_4 l0_4.length c0_4, .slice A0_5 l0_5.length c0_5]) ?_ 3 _ rfl; (with_reducible repeat (first | refine blk_drewN ?_ _ | refine blk_drew ?_ | refine blk_alloc ?_ _)); exact BK240.out) hb); replace HB := Aside0.mk (below_step oB hb); clear hb ho20; obtain ⟨⟨_, _, _, _, _, _⟩, _, _, _, _, _, _⟩ := z6 BK238) | ((with_reducible refine gate_builtin (b := .append) (xs := #[.tmp 10, .tmp 12]) rfl ?_); at_builtin; refine Kd.R_append_rows k91 (w0 := w) w.heap.size rfl (.tmp 10) (.tmp 12) 61 91 (.agg #[(.string ⟨#[]⟩), (.int .i64 0)]) 24 rfl Tryd.underlying61 info91 rfl (by decide) (by omega) v248 y247 l0_4 _ _ _ (fun _ => True) (fun _ => False) rfl rfl ?aO ?aR (fun _ _ h => h) (fun _ h => h.elim) ?aF ?aB ?aS ?aL ?_; (case aR => repeat (first | exact (Kd.C_below HR0_4.out HB.out) | (with_reducible refine Kd.C_alloc ?_ _) | (with_reducible refine Kd.C_drewN ?_ _) | (with_reducible refine Kd.C_drew ?_))); (case aB => exact oB); (case aF => exact (fun _ _ => trivial)); (case aO => exact (oR HO249)); (case aS => exact (below_size oB)); (case aL => have := LMc3.out; omega); intro v251 w22 ho hb hg hat; rw [← Ny250.out] at ho; have HO252 := Aside0.mk (ho); replace BK238 := Aside0.mk (blk_grown (g := gb238) (o := .cells #[.int .i64 a0_0, .int .i64 a0_1, .int .i64 a0_2, .slice A0_3 l0_3.length c0_3, .slice A0_4 l0_4.length c0_4, .slice A0_5 l0_5.length c0_5] 64 (0, 0)) (oF BK238) hg (Kd.R_ne HO249.out BK238.out (by decide))); replace BK239 := Aside0.mk (blk_grown (g := gb239) (o := .cells #[.int .i64 0, .int .i64 0, .int .i64 0, .slice none 0 0, .slice none 0 0, .slice none 0 0] 64 (0, 0)) (oF BK239) hg (Kd.R_ne HO249.out BK239.out (by decide))); replace BK240 := Aside0.mk (blk_grown (g := gb240) (o := .cells #[.int .i64 a0_0, .int .i64 a0_1, .int .i64 a0_2, .slice Ao17 y244.length co17, .slice A0_4 l0_4.length c0_4, .slice A0_5 l0_5.length c0_5] 64 (0, 0)) (oF BK240) hg (Kd.R_ne HO249.out BK240.out (by decide))); replace HO246 := Aside0.mk (Kd.R_over' (oR HO246) (Kd.R_typed (oR HO249)) (by decide) hg); replace HB := Aside0.mk (hb); clear HO249; clear ho hb hg hat; obtain ⟨Ao23, co23, eo23⟩ := Kd.R_slice HO252.out; subst eo23; obtain ⟨⟨_, _, _, _, _, _⟩, _, _, _, _, _, _⟩ := z6 BK240) | ((with_reducible refine gate_dst (N := 15) rfl ?_); refine Kd.R_lit k87 _ 87 ?hg (N := 15) ?hd (xs := ([] : List (S87))) (inner := []) (ok := fun _ => True) (okp := fun _ => True) ?hr ?hp (fun _ hk => hk) trivial (Below.refl _ _) (Nat.le_refl _) (by simp) ?_; (case hd => rfl); (case hg => rfl); (case hr => first | (go_simp; done) | (go_simp; rfl)); (case hp => exact (Reps.none _ _)); intro v254 w25 ho26 hb hg_ hnew_; clear hg_ hnew_; (first | rw [← Ny253.out] at ho26 | (simp only [Int.reduceToNat] at ho26; rw [← Ny253.out] at ho26)); have HO255 := Aside0.mk (Kd.R_lower ho26 (below_size oB)); replace HO246 := Aside0.mk (Kd.R_below (by (with_reducible repeat (first | apply Kd.R_alloc | apply Kd.R_drewN | apply Kd.R_drew)); exact (Kd.R_mono (Kd.R_far (p := ⟨gb240, 4, none⟩) (Kd.R_types HO246.out BK240.out (by decide)) (fun _ hk => hk.2) (.slice Ao23 y250.length co23)) (fun _ h_ => h_.1))) hb); replace HO252 := Aside0.mk (Kd.R_below (by (with_reducible repeat (first | apply Kd.R_alloc | apply Kd.R_drewN | apply Kd.R_drew)); exact (Kd.R_mono (Kd.R_far (p := ⟨gb240, 4, none⟩) (Kd.R_types HO252.out BK240.out (by decide)) (fun _ hk => hk.2) (.slice Ao23 y250.length co23)) (fun _ h_ => h_.1))) hb); replace BK238 := Aside0.mk (blk_below (g := gb238) (o := .cells #[.int .i64 a0_0, .int .i64 a0_1, .int .i64 a0_2, .slice A0_3 l0_3.length c0_3, .slice A0_4 l0_4.length c0_4, .slice A0_5 l0_5.length c0_5] 64 (0, 0)) (by (with_reducible repeat (first | refine blk_drewN ?_ _ | refine blk_drew ?_ | refine blk_alloc ?_ _)); refine blk_far ?_ NB238_240.out _; (with_reducible repeat (first | refine blk_drewN ?_ _ | refine blk_drew ?_ | refine blk_alloc ?_ _)); exact BK238.out) hb); replace BK239 := Aside0.mk (blk_below (g := gb239) (o := .cells #[.int .i64 0, .int .i64 0, .int .i64 0, .slice none 0 0, .slice none 0 0, .slice none 0 0] 64 (0, 0)) (by (with_reducible repeat (first | refine blk_drewN ?_ _ | refine blk_drew ?_ | refine blk_alloc ?_ _)); refine blk_far ?_ NB239_240.out _; (with_reducible repeat (first | refine blk_drewN ?_ _ | refine blk_drew ?_ | refine blk_alloc ?_ _)); exact BK239.out) hb); replace BK240 := Aside0.mk (blk_below (g := gb240) (o := .cells #[.int .i64 a0_0, .int .i64 a0_1, .int .i64 a0_2, .slice Ao17 y244.length co17, .slice Ao23 y250.length co23, .slice A0_5 l0_5.length c0_5] 64 (0, 0)) (by (with_reducible repeat (first | refine blk_drewN ?_ _ | refine blk_drew ?_ | refine blk_alloc ?_ _)); refine blk_put (cs := #[.int .i64 a0_0, .int .i64 a0_1, .int .i64 a0_2, .slice Ao17 y244.length co17, .slice A0_4 l0_4.length c0_4, .slice A0_5 l0_5.length c0_5]) ?_ 4 _ rfl; (with_reducible repeat (first | refine blk_drewN ?_ _ | refine blk_drew ?_ | refine blk_alloc ?_ _)); exact BK240.out) hb); replace HB := Aside0.mk (below_step oB hb); clear hb ho26; obtain ⟨⟨_, _, _, _, _, _⟩, _, _, _, _, _, _⟩ := z6 BK238) | ((with_reducible refine gate_builtin (b := .append) (xs := #[.tmp 15, .tmp 17]) rfl ?_); at_builtin; refine Kd.R_append_rows k87 (w0 := w) w.heap.size rfl (.tmp 15) (.tmp 17) 62 87 (.agg #[(.string ⟨#[]⟩), (.string ⟨#[]⟩)]) 32 rfl Tryd.underlying62 info87 rfl (by decide) (by omega) v254 y253 l0_5 _ _ _ (fun _ => True) (fun _ => False) rfl rfl ?aO ?aR (fun _ _ h => h) (fun _ h => h.elim) ?aF ?aB ?aS ?aL ?_; (case aR => repeat (first | exact (Kd.C_below HR0_5.out HB.out) | (with_reducible refine Kd.C_alloc ?_ _) | (with_reducible refine Kd.C_drewN ?_ _) | (with_reducible refine Kd.C_drew ?_))); (case aB => exact oB); (case aF => exact (fun _ _ => trivial)); (case aO => exact (oR HO255)); (case aS => exact (below_size oB)); (case aL => have := LMc4.out; omega); intro v257 w28 ho hb hg hat; rw [← Ny256.out] at ho; have HO258 := Aside0.mk (ho); replace BK238 := Aside0.mk (blk_grown (g := gb238) (o := .cells #[.int .i64 a0_0, .int .i64 a0_1, .int .i64 a0_2, .slice A0_3 l0_3.length c0_3, .slice A0_4 l0_4.length c0_4, .slice A0_5 l0_5.length c0_5] 64 (0, 0)) (oF BK238) hg (Kd.R_ne HO255.out BK238.out (by decide))); replace BK239 := Aside0.mk (blk_grown (g := gb239) (o := .cells #[.int .i64 0, .int .i64 0, .int .i64 0, .slice none 0 0, .slice none 0 0, .slice none 0 0] 64 (0, 0)) (oF BK239) hg (Kd.R_ne HO255.out BK239.out (by decide))); replace BK240 := Aside0.mk (blk_grown (g := gb240) (o := .cells #[.int .i64 a0_0, .int .i64 a0_1, .int .i64 a0_2, .slice Ao17 y244.length co17, .slice Ao23 y250.length co23, .slice A0_5 l0_5.length c0_5] 64 (0, 0)) (oF BK240) hg (Kd.R_ne HO255.out BK240.out (by decide))); replace HO246 := Aside0.mk (Kd.R_over' (oR HO246) (Kd.R_typed (oR HO255)) (by decide) hg); replace HO252 := Aside0.mk (Kd.R_over' (oR HO252) (Kd.R_typed (oR HO255)) (by decide) hg); replace HB := Aside0.mk (hb); clear HO255; clear ho hb hg hat; obtain ⟨Ao29, co29, eo29⟩ := Kd.R_slice HO258.out; subst eo29; obtain ⟨⟨_, _, _, _, _, _⟩, _, _, _, _, _, _⟩ := z6 BK240; obtain ⟨⟨_, _, _, _, _, _⟩, _, _, _, _, _, _⟩ := z6 BK239))
    refine bodyPost_ret (results_cell_row rfl _ _ gb239 64 #[.int .i64 a0_0, .int .i64 a0_1, .int .i64 a0_2, .slice Ao17 y244.length co17, .slice Ao23 y250.length co23, .slice Ao29 y256.length co29] (0, 0) _ rfl (by (with_reducible repeat (first | refine blk_drewN ?_ _ | refine blk_drew ?_ | refine blk_alloc ?_ _)); refine blk_put (cs := #[.int .i64 a0_0, .int .i64 a0_1, .int .i64 a0_2, .slice Ao17 y244.length co17, .slice Ao23 y250.length co23, .slice none 0 0]) ?_ 5 _ rfl; (with_reducible repeat (first | refine blk_drewN ?_ _ | refine blk_drew ?_ | refine blk_alloc ?_ _)); refine blk_put (cs := #[.int .i64 a0_0, .int .i64 a0_1, .int .i64 a0_2, .slice Ao17 y244.length co17, .slice none 0 0, .slice none 0 0]) ?_ 4 _ rfl; (with_reducible repeat (first | refine blk_drewN ?_ _ | refine blk_drew ?_ | refine blk_alloc ?_ _)); refine blk_put (cs := #[.int .i64 a0_0, .int .i64 a0_1, .int .i64 a0_2, .slice none 0 0, .slice none 0 0, .slice none 0 0]) ?_ 3 _ rfl; (with_reducible repeat (first | refine blk_drewN ?_ _ | refine blk_drew ?_ | refine blk_alloc ?_ _)); refine blk_put (cs := #[.int .i64 a0_0, .int .i64 a0_1, .int .i64 0, .slice none 0 0, .slice none 0 0, .slice none 0 0]) ?_ 2 _ rfl; (with_reducible repeat (first | refine blk_drewN ?_ _ | refine blk_drew ?_ | refine blk_alloc ?_ _)); refine blk_put (cs := #[.int .i64 a0_0, .int .i64 0, .int .i64 0, .slice none 0 0, .slice none 0 0, .slice none 0 0]) ?_ 1 _ rfl; (with_reducible repeat (first | refine blk_drewN ?_ _ | refine blk_drew ?_ | refine blk_alloc ?_ _)); refine blk_put (cs := #[.int .i64 0, .int .i64 0, .int .i64 0, .slice none 0 0, .slice none 0 0, .slice none 0 0]) ?_ 0 _ rfl; (with_reducible repeat (first | refine blk_drewN ?_ _ | refine blk_drew ?_ | refine blk_alloc ?_ _)); refine blk_far ?_ NB239_240.out _; (with_reducible repeat (first | refine blk_drewN ?_ _ | refine blk_drew ?_ | refine blk_alloc ?_ _)); exact BK239.out) Tryd.underlying64 rfl (by kernel_rfl)) rfl ?_
    exact ⟨_, _, _, oE, by (with_reducible repeat (first | apply Kd.R_alloc | apply Kd.R_drewN | apply Kd.R_drew)); exact Kd.R_mono (Kd.R_far (p := ⟨gb239, 5, none⟩) (Kd.R_far (p := ⟨gb239, 4, none⟩) (Kd.R_far (p := ⟨gb239, 3, none⟩) (Kd.R_far (p := ⟨gb239, 2, none⟩) (Kd.R_far (p := ⟨gb239, 1, none⟩) (Kd.R_far (p := ⟨gb239, 0, none⟩) (Kd.R_far (p := ⟨gb240, 5, none⟩) (Kd.R_types (Kd.R_types HO246.out BK240.out (by decide)) BK239.out (by decide)) (fun _ hk => hk.1.2) (.slice Ao29 y256.length co29)) (fun _ hk => hk.2) (.int .i64 a0_0)) (fun _ hk => hk.2) (.int .i64 a0_1)) (fun _ hk => hk.2) (.int .i64 a0_2)) (fun _ hk => hk.2) (.slice Ao17 y244.length co17)) (fun _ hk => hk.2) (.slice Ao23 y250.length co23)) (fun _ hk => hk.2) (.slice Ao29 y256.length co29)) (fun _ hk => trivial), by (with_reducible repeat (first | apply Kd.R_alloc | apply Kd.R_drewN | apply Kd.R_drew)); exact Kd.R_mono (Kd.R_far (p := ⟨gb239, 5, none⟩) (Kd.R_far (p := ⟨gb239, 4, none⟩) (Kd.R_far (p := ⟨gb239, 3, none⟩) (Kd.R_far (p := ⟨gb239, 2, none⟩) (Kd.R_far (p := ⟨gb239, 1, none⟩) (Kd.R_far (p := ⟨gb239, 0, none⟩) (Kd.R_far (p := ⟨gb240, 5, none⟩) (Kd.R_types (Kd.R_types HO252.out BK240.out (by decide)) BK239.out (by decide)) (fun _ hk => hk.1.2) (.slice Ao29 y256.length co29)) (fun _ hk => hk.2) (.int .i64 a0_0)) (fun _ hk => hk.2) (.int .i64 a0_1)) (fun _ hk => hk.2) (.int .i64 a0_2)) (fun _ hk => hk.2) (.slice Ao17 y244.length co17)) (fun _ hk => hk.2) (.slice Ao23 y250.length co23)) (fun _ hk => hk.2) (.slice Ao29 y256.length co29)) (fun _ hk => trivial), by (with_reducible repeat (first | apply Kd.R_alloc | apply Kd.R_drewN | apply Kd.R_drew)); exact Kd.R_mono (Kd.R_far (p := ⟨gb239, 5, none⟩) (Kd.R_far (p := ⟨gb239, 4, none⟩) (Kd.R_far (p := ⟨gb239, 3, none⟩) (Kd.R_far (p := ⟨gb239, 2, none⟩) (Kd.R_far (p := ⟨gb239, 1, none⟩) (Kd.R_far (p := ⟨gb239, 0, none⟩) (Kd.R_far (p := ⟨gb240, 5, none⟩) (Kd.R_types (Kd.R_types HO258.out BK240.out (by decide)) BK239.out (by decide)) (fun _ hk => hk.1.2) (.slice Ao29 y256.length co29)) (fun _ hk => hk.2) (.int .i64 a0_0)) (fun _ hk => hk.2) (.int .i64 a0_1)) (fun _ hk => hk.2) (.int .i64 a0_2)) (fun _ hk => hk.2) (.slice Ao17 y244.length co17)) (fun _ hk => hk.2) (.slice Ao23 y250.length co23)) (fun _ hk => hk.2) (.slice Ao29 y256.length co29)) (fun _ hk => trivial), oB⟩
   ·rw [if_neg c4] at H
    exact absurd H (by simp)
  ·rw [if_neg c3] at H
   exact absurd H (by simp)
 ·rw [if_neg c2] at H
  exact absurd H (by simp)

/-! ### spec_InodeAt: function 72 -/
def spec_InodeAt.f (k : Nat) (l0_0 : List (S64)) (a0_1 : Int) (a1 : Int) : Option (Int × Int × Int × List Int × (List (S91)) × (List (S87)) × Bool) := (spec_l4At.f k l0_0 a0_1 a1).bind fun t261 => (if t261 < 0 then (some (0, 0, 0, ([] : List Int), ([] : List (S91)), ([] : List (S87)), false)) else (if 0 ≤ t261 then (if t261 < (l0_0.length : Int) then ((spec_l3Copy.f ((rd_T64 l0_0 t261).f0) ((rd_T64 l0_0 t261).f1) ((rd_T64 l0_0 t261).f2) ((rd_T64 l0_0 t261).f3) ((rd_T64 l0_0 t261).f4) ((rd_T64 l0_0 t261).f5)).bind fun bt263 => (some (bt263.1, bt263.2.1, bt263.2.2.1, bt263.2.2.2.1, bt263.2.2.2.2.1, bt263.2.2.2.2.2, true))) else (none)) else (none)))
set_option maxHeartbeats 8000000 in
set_option maxRecDepth 100000 in
theorem spec_InodeAt.calls (k : Nat) (A0_0 : Option Addr) (c0_0 : Nat) (l0_0 : List (S64)) (a0_1 : Int) (a1 : Int) (r1 : Int) (r2 : Int) (r3 : Int) (r4 : List Int) (r5 : List (S91)) (r6 : List (S87)) (r7 : Bool) (w : World) (hr0_0 : Kd.C k64 w A0_0 l0_0.length l0_0) (hc0_0 : l0_0.length ≤ c0_0) (h : spec_InodeAt.f k l0_0 a0_1 a1 = some (r1, r2, r3, r4, r5, r6, r7)) :
  Calls Tryd.prog 72 #[.agg #[.slice A0_0 l0_0.length c0_0, .int .i64 a0_1], .int .i64 a1] w fun e w' => ∃ v3_ v4_ v5_ : Value, e = .returned (.tuple #[.agg #[.int .i64 r1, .int .i64 r2, .int .i64 r3, v3_, v4_, v5_], .bool r7]) ∧ Kd.R (Kd.int .u8) 5 w' w.heap.size (fun _ => True) v3_ r4 ∧ Kd.R k91 91 w' w.heap.size (fun _ => True) v4_ r5 ∧ Kd.R k87 87 w' w.heap.size (fun _ => True) v5_ r6 ∧ Below w.heap.size w w' := by
 have hu46 := Tryd.underlying46
 have hu64 := Tryd.underlying64
 have HR0_0 := Aside0.mk hr0_0
 have HC0_0 := Aside0.mk hc0_0
 clear hr0_0 hc0_0
 have HB := Aside0.mk (Below.refl w.heap.size w)
 unfold spec_InodeAt.f at h
 have H := h
 clear h
 replace H := bA H
 obtain ⟨t261, A3, H⟩ := H
 try dsimp only at H
 replace H := itD H
 rcases H with ⟨c4b0, H⟩ | ⟨c4b0, H⟩
 ·simp only [Option.some.injEq, Prod.mk.injEq] at H
  obtain ⟨rfl, rfl, rfl, rfl, rfl, rfl, rfl⟩ := H
  go_enter Tryd.func72, Tryd.ntmps72
  go_wp2_with (first | ((with_reducible refine gate_dst (N := 2) rfl ?_); refine bx_ 2 #[.slice A0_0 l0_0.length c0_0, .int .i64 a0_1] 46 ?_; intro gb259 hg w5 hbox hb; have BK259 := Aside0.mk (hbox); have GW259 := gs_ hg; have GE259 := gs_ hg; replace HB := Aside0.mk (below_step oB hb); clear hb hbox hg) | ((with_reducible refine gate_dst (N := 4) rfl ?_); refine bx_ 4 #[.int .i64 0, .int .i64 0, .int .i64 0, .slice none 0 0, .slice none 0 0, .slice none 0 0] 64 ?_; intro gb260 hg w6 hbox hb; have BK260 := Aside0.mk (hbox); have GW260 := gs_ hg; have GE260 := gs_ hg; have NB259_260 := nl_ hg BK259; have NB260_259 := nr_ hg BK259; replace BK259 := kb_ BK259 hb; replace HB := Aside0.mk (below_step oB hb); clear hb hbox hg; have hnb7 := NB259_260.out; have hnc7 := NB260_259.out; obtain ⟨⟨_, _⟩, _, _⟩ := z2 BK259) | ((with_reducible refine gate_callee (f := 89) rfl ?_); refine gl_ 9 Tryd.func89 (spec_l4At.calls k _ _ l0_0 a0_1 a1 t261 _ (kC HR0_0) HC0_0.out A3.out) ?_; rintro e w9 ⟨rfl, hb⟩; refine ⟨_, rfl, ?_⟩; replace BK259 := kb_ BK259 hb; replace BK260 := kb_ BK260 hb; replace HB := Aside0.mk (below_step oB hb); obtain ⟨⟨_, _, _, _, _, _⟩, _, _, _, _, _, _⟩ := z6 BK260))
  refine bodyPost_ret (results_ct rfl _ _ gb260 64 #[.int .i64 0, .int .i64 0, .int .i64 0, .slice none 0 0, .slice none 0 0, .slice none 0 0] (0, 0) _ rfl (by (with_reducible repeat (first | refine blk_drewN ?_ _ | refine blk_drew ?_ | refine blk_alloc ?_ _)); refine blk_put (cs := #[.int .i64 0, .int .i64 0, .int .i64 0, .slice none 0 0, .slice none 0 0, .slice none 0 0]) ?_ 5 _ rfl; (with_reducible repeat (first | refine blk_drewN ?_ _ | refine blk_drew ?_ | refine blk_alloc ?_ _)); refine blk_put (cs := #[.int .i64 0, .int .i64 0, .int .i64 0, .slice none 0 0, .slice none 0 0, .slice none 0 0]) ?_ 4 _ rfl; (with_reducible repeat (first | refine blk_drewN ?_ _ | refine blk_drew ?_ | refine blk_alloc ?_ _)); refine blk_put (cs := #[.int .i64 0, .int .i64 0, .int .i64 0, .slice none 0 0, .slice none 0 0, .slice none 0 0]) ?_ 3 _ rfl; (with_reducible repeat (first | refine blk_drewN ?_ _ | refine blk_drew ?_ | refine blk_alloc ?_ _)); refine blk_put (cs := #[.int .i64 0, .int .i64 0, .int .i64 0, .slice none 0 0, .slice none 0 0, .slice none 0 0]) ?_ 2 _ rfl; (with_reducible repeat (first | refine blk_drewN ?_ _ | refine blk_drew ?_ | refine blk_alloc ?_ _)); refine blk_put (cs := #[.int .i64 0, .int .i64 0, .int .i64 0, .slice none 0 0, .slice none 0 0, .slice none 0 0]) ?_ 1 _ rfl; (with_reducible repeat (first | refine blk_drewN ?_ _ | refine blk_drew ?_ | refine blk_alloc ?_ _)); refine blk_put (cs := #[.int .i64 0, .int .i64 0, .int .i64 0, .slice none 0 0, .slice none 0 0, .slice none 0 0]) ?_ 0 _ rfl; (with_reducible repeat (first | refine blk_drewN ?_ _ | refine blk_drew ?_ | refine blk_alloc ?_ _)); exact BK260.out) Tryd.underlying64 rfl (by kernel_rfl)) rfl ?_
  exact ⟨_, _, _, oE, by first | exact Kd.R_nil _ _ _ _ _ | exact Kd.N_nil _ _ _ _ _ | exact Kd.V_nil _ _ _ _ _ | exact Kd.Q_nil _ _ _ _ _ | exact Kd.S_nil _ _ _ _ _, by first | exact Kd.R_nil _ _ _ _ _ | exact Kd.N_nil _ _ _ _ _ | exact Kd.V_nil _ _ _ _ _ | exact Kd.Q_nil _ _ _ _ _ | exact Kd.S_nil _ _ _ _ _, by first | exact Kd.R_nil _ _ _ _ _ | exact Kd.N_nil _ _ _ _ _ | exact Kd.V_nil _ _ _ _ _ | exact Kd.Q_nil _ _ _ _ _ | exact Kd.S_nil _ _ _ _ _, oB⟩
 ·replace H := itD H
  rcases H with ⟨c11b0, H⟩ | ⟨c11b0, H⟩
  ·replace H := itD H
   rcases H with ⟨c12b0, H⟩ | ⟨c12b0, H⟩
   ·replace H := bA H
    obtain ⟨⟨t263, t264, t265, t266, t269, t272⟩, A13, H⟩ := H
    try dsimp only at H
    simp only [Option.some.injEq, Prod.mk.injEq] at H
    obtain ⟨rfl, rfl, rfl, rfl, rfl, rfl, rfl⟩ := H
    go_enter Tryd.func72, Tryd.ntmps72
    go_wp2_with (first | ((with_reducible refine gate_dst (N := 2) rfl ?_); refine bx_ 2 #[.slice A0_0 l0_0.length c0_0, .int .i64 a0_1] 46 ?_; intro gb259 hg w14 hbox hb; have BK259 := Aside0.mk (hbox); have GW259 := gs_ hg; have GE259 := gs_ hg; replace HB := Aside0.mk (below_step oB hb); clear hb hbox hg) | ((with_reducible refine gate_dst (N := 4) rfl ?_); refine bx_ 4 #[.int .i64 0, .int .i64 0, .int .i64 0, .slice none 0 0, .slice none 0 0, .slice none 0 0] 64 ?_; intro gb260 hg w15 hbox hb; have BK260 := Aside0.mk (hbox); have GW260 := gs_ hg; have GE260 := gs_ hg; have NB259_260 := nl_ hg BK259; have NB260_259 := nr_ hg BK259; replace BK259 := kb_ BK259 hb; replace HB := Aside0.mk (below_step oB hb); clear hb hbox hg; have hnb16 := NB259_260.out; have hnc16 := NB260_259.out; obtain ⟨⟨_, _⟩, _, _⟩ := z2 BK259) | ((with_reducible refine gate_callee (f := 89) rfl ?_); refine gl_ 9 Tryd.func89 (spec_l4At.calls k _ _ l0_0 a0_1 a1 t261 _ (kC HR0_0) HC0_0.out A3.out) ?_; rintro e w18 ⟨rfl, hb⟩; refine ⟨_, rfl, ?_⟩; replace BK259 := kb_ BK259 hb; replace BK260 := kb_ BK260 hb; replace HB := Aside0.mk (below_step oB hb); obtain ⟨⟨_, _⟩, _, _⟩ := z2 BK259; have p262 : (0 ≤ (t261 : Int)) = True := oT; have q262 : (t261 < (l0_0.length : Int)) = True := oT; obtain ⟨ad262, A262_3, c262_3, A262_4, c262_4, A262_5, c262_5, e262, hx262_0, hx262_1, hx262_2, hx262_3, hx262_4, hx262_5, hl262_3, hi262_3, hl262_4, hi262_4, hl262_5, hi262_5⟩ := at_T64 HR0_0.out t261 oa oa; cases e262; replace hx262_0 := cB HB hx262_0; replace hx262_1 := cB HB hx262_1; replace hx262_2 := cB HB hx262_2; replace hx262_3 := cB HB hx262_3; replace hx262_4 := cB HB hx262_4; replace hx262_5 := cB HB hx262_5; have HR262_3 := Aside0.mk hi262_3; have HC262_3 := Aside0.mk hl262_3; clear hi262_3 hl262_3; have HR262_4 := Aside0.mk hi262_4; have HC262_4 := Aside0.mk hl262_4; clear hi262_4 hl262_4; have HR262_5 := Aside0.mk hi262_5; have HC262_5 := Aside0.mk hl262_5; clear hi262_5 hl262_5) | ((with_reducible refine gate_callee (f := 94) rfl ?_); refine gl_ 18 Tryd.func94 (spec_l3Copy.calls ((rd_T64 l0_0 t261).f0) ((rd_T64 l0_0 t261).f1) ((rd_T64 l0_0 t261).f2) _ _ ((rd_T64 l0_0 t261).f3) _ _ ((rd_T64 l0_0 t261).f4) _ _ ((rd_T64 l0_0 t261).f5) t263 t264 t265 t266 t269 t272 _ (kC HR262_3) HC262_3.out (kC HR262_4) HC262_4.out (kC HR262_5) HC262_5.out A13.out) ?_; rintro e w20 ⟨v267, v270, v273, rfl, ho0, ho1, ho2, hb⟩; refine ⟨_, rfl, ?_⟩; have HO268 := Aside0.mk (Kd.R_lower ho0 (below_size oB)); have HO271 := Aside0.mk (Kd.R_lower ho1 (below_size oB)); have HO274 := Aside0.mk (Kd.R_lower ho2 (below_size oB)); replace BK259 := kb_ BK259 hb; replace BK260 := kb_ BK260 hb; replace HB := Aside0.mk (below_step oB hb); (try clear ho1); (try clear ho2); obtain ⟨⟨_, _, _, _, _, _⟩, _, _, _, _, _, _⟩ := z6 BK260; obtain ⟨Ao22, co22, eo22⟩ := Kd.R_slice HO268.out; subst eo22; obtain ⟨Ao23, co23, eo23⟩ := Kd.R_slice HO271.out; subst eo23; obtain ⟨Ao24, co24, eo24⟩ := Kd.R_slice HO274.out; subst eo24))
    refine bodyPost_ret (results_ct rfl _ _ gb260 64 #[.int .i64 t263, .int .i64 t264, .int .i64 t265, .slice Ao22 t266.length co22, .slice Ao23 t269.length co23, .slice Ao24 t272.length co24] (0, 0) _ rfl (by (with_reducible repeat (first | refine blk_drewN ?_ _ | refine blk_drew ?_ | refine blk_alloc ?_ _)); refine blk_put (cs := #[.int .i64 t263, .int .i64 t264, .int .i64 t265, .slice Ao22 t266.length co22, .slice Ao23 t269.length co23, .slice none 0 0]) ?_ 5 _ rfl; (with_reducible repeat (first | refine blk_drewN ?_ _ | refine blk_drew ?_ | refine blk_alloc ?_ _)); refine blk_put (cs := #[.int .i64 t263, .int .i64 t264, .int .i64 t265, .slice Ao22 t266.length co22, .slice none 0 0, .slice none 0 0]) ?_ 4 _ rfl; (with_reducible repeat (first | refine blk_drewN ?_ _ | refine blk_drew ?_ | refine blk_alloc ?_ _)); refine blk_put (cs := #[.int .i64 t263, .int .i64 t264, .int .i64 t265, .slice none 0 0, .slice none 0 0, .slice none 0 0]) ?_ 3 _ rfl; (with_reducible repeat (first | refine blk_drewN ?_ _ | refine blk_drew ?_ | refine blk_alloc ?_ _)); refine blk_put (cs := #[.int .i64 t263, .int .i64 t264, .int .i64 0, .slice none 0 0, .slice none 0 0, .slice none 0 0]) ?_ 2 _ rfl; (with_reducible repeat (first | refine blk_drewN ?_ _ | refine blk_drew ?_ | refine blk_alloc ?_ _)); refine blk_put (cs := #[.int .i64 t263, .int .i64 0, .int .i64 0, .slice none 0 0, .slice none 0 0, .slice none 0 0]) ?_ 1 _ rfl; (with_reducible repeat (first | refine blk_drewN ?_ _ | refine blk_drew ?_ | refine blk_alloc ?_ _)); refine blk_put (cs := #[.int .i64 0, .int .i64 0, .int .i64 0, .slice none 0 0, .slice none 0 0, .slice none 0 0]) ?_ 0 _ rfl; (with_reducible repeat (first | refine blk_drewN ?_ _ | refine blk_drew ?_ | refine blk_alloc ?_ _)); exact BK260.out) Tryd.underlying64 rfl (by kernel_rfl)) rfl ?_
    exact ⟨_, _, _, oE, by (with_reducible repeat (first | apply Kd.R_alloc | apply Kd.R_drewN | apply Kd.R_drew)); exact Kd.R_mono (Kd.R_far (p := ⟨gb260, 5, none⟩) (Kd.R_far (p := ⟨gb260, 4, none⟩) (Kd.R_far (p := ⟨gb260, 3, none⟩) (Kd.R_far (p := ⟨gb260, 2, none⟩) (Kd.R_far (p := ⟨gb260, 1, none⟩) (Kd.R_far (p := ⟨gb260, 0, none⟩) (Kd.R_types HO268.out BK260.out (by decide)) (fun _ hk => hk.2) (.int .i64 t263)) (fun _ hk => hk.2) (.int .i64 t264)) (fun _ hk => hk.2) (.int .i64 t265)) (fun _ hk => hk.2) (.slice Ao22 t266.length co22)) (fun _ hk => hk.2) (.slice Ao23 t269.length co23)) (fun _ hk => hk.2) (.slice Ao24 t272.length co24)) (fun _ hk => trivial), by (with_reducible repeat (first | apply Kd.R_alloc | apply Kd.R_drewN | apply Kd.R_drew)); exact Kd.R_mono (Kd.R_far (p := ⟨gb260, 5, none⟩) (Kd.R_far (p := ⟨gb260, 4, none⟩) (Kd.R_far (p := ⟨gb260, 3, none⟩) (Kd.R_far (p := ⟨gb260, 2, none⟩) (Kd.R_far (p := ⟨gb260, 1, none⟩) (Kd.R_far (p := ⟨gb260, 0, none⟩) (Kd.R_types HO271.out BK260.out (by decide)) (fun _ hk => hk.2) (.int .i64 t263)) (fun _ hk => hk.2) (.int .i64 t264)) (fun _ hk => hk.2) (.int .i64 t265)) (fun _ hk => hk.2) (.slice Ao22 t266.length co22)) (fun _ hk => hk.2) (.slice Ao23 t269.length co23)) (fun _ hk => hk.2) (.slice Ao24 t272.length co24)) (fun _ hk => trivial), by (with_reducible repeat (first | apply Kd.R_alloc | apply Kd.R_drewN | apply Kd.R_drew)); exact Kd.R_mono (Kd.R_far (p := ⟨gb260, 5, none⟩) (Kd.R_far (p := ⟨gb260, 4, none⟩) (Kd.R_far (p := ⟨gb260, 3, none⟩) (Kd.R_far (p := ⟨gb260, 2, none⟩) (Kd.R_far (p := ⟨gb260, 1, none⟩) (Kd.R_far (p := ⟨gb260, 0, none⟩) (Kd.R_types HO274.out BK260.out (by decide)) (fun _ hk => hk.2) (.int .i64 t263)) (fun _ hk => hk.2) (.int .i64 t264)) (fun _ hk => hk.2) (.int .i64 t265)) (fun _ hk => hk.2) (.slice Ao22 t266.length co22)) (fun _ hk => hk.2) (.slice Ao23 t269.length co23)) (fun _ hk => hk.2) (.slice Ao24 t272.length co24)) (fun _ hk => trivial), oB⟩
   ·cases H
  ·cases H

/-! ### spec_Stat: function 47 -/
def spec_Stat.f (k : Nat) (l0_0 : List (S64)) (a0_1 : Int) (a1 : ByteArray) : Option (Int × Int × Int × List Int × (List (S91)) × (List (S87)) × Int) := (spec_Walk.f k l0_0 a0_1 a1).bind fun bt277 => (if bt277.2 = 0 then ((spec_InodeAt.f k l0_0 a0_1 bt277.1).bind fun bt279 => (if bt279.2.2.2.2.2.2 = true then (some (bt279.1, bt279.2.1, bt279.2.2.1, bt279.2.2.2.1, bt279.2.2.2.2.1, bt279.2.2.2.2.2.1, 0)) else (some (0, 0, 0, ([] : List Int), ([] : List (S91)), ([] : List (S87)), 2)))) else (some (0, 0, 0, ([] : List Int), ([] : List (S91)), ([] : List (S87)), bt277.2)))
set_option maxHeartbeats 8000000 in
set_option maxRecDepth 100000 in
theorem spec_Stat.calls (k : Nat) (A0_0 : Option Addr) (c0_0 : Nat) (l0_0 : List (S64)) (a0_1 : Int) (a1 : ByteArray) (r1 : Int) (r2 : Int) (r3 : Int) (r4 : List Int) (r5 : List (S91)) (r6 : List (S87)) (r7 : Int) (w : World) (hr0_0 : Kd.C k64 w A0_0 l0_0.length l0_0) (hc0_0 : l0_0.length ≤ c0_0) (h : spec_Stat.f k l0_0 a0_1 a1 = some (r1, r2, r3, r4, r5, r6, r7)) :
  Calls Tryd.prog 47 #[.agg #[.slice A0_0 l0_0.length c0_0, .int .i64 a0_1], .string a1] w fun e w' => ∃ v3_ v4_ v5_ : Value, e = .returned (.tuple #[.agg #[.int .i64 r1, .int .i64 r2, .int .i64 r3, v3_, v4_, v5_], .int .i64 r7]) ∧ Kd.R (Kd.int .u8) 5 w' w.heap.size (fun _ => True) v3_ r4 ∧ Kd.R k91 91 w' w.heap.size (fun _ => True) v4_ r5 ∧ Kd.R k87 87 w' w.heap.size (fun _ => True) v5_ r6 ∧ Below w.heap.size w w' := by
 have hu46 := Tryd.underlying46
 have hu64 := Tryd.underlying64
 have HR0_0 := Aside0.mk hr0_0
 have HC0_0 := Aside0.mk hc0_0
 clear hr0_0 hc0_0
 have HB := Aside0.mk (Below.refl w.heap.size w)
 unfold spec_Stat.f at h
 have H := h
 clear h
 replace H := bA H
 obtain ⟨⟨t277, t278⟩, A3, H⟩ := H
 try dsimp only at H
 by_cases c4 : t278 = 0
 ·rw [if_pos c4] at H
  have c4b0 : (t278 == 0) = true := beq_iff_eq.mpr c4
  have c4b1 : (t278 != 0) = false := bne_eq_false_iff_eq.mpr c4
  clear c4
  replace H := bA H
  obtain ⟨⟨t279, t280, t281, t282, t285, t288, t291⟩, A5, H⟩ := H
  try dsimp only at H
  replace H := itB H
  rcases H with ⟨rfl, H⟩ | ⟨rfl, H⟩
  ·simp only [Option.some.injEq, Prod.mk.injEq] at H
   obtain ⟨rfl, rfl, rfl, rfl, rfl, rfl, rfl⟩ := H
   go_enter Tryd.func47, Tryd.ntmps47
   go_wp2_with (first | ((with_reducible refine gate_dst (N := 2) rfl ?_); refine bx_ 2 #[.slice A0_0 l0_0.length c0_0, .int .i64 a0_1] 46 ?_; intro gb275 hg w7 hbox hb; have BK275 := Aside0.mk (hbox); have GW275 := gs_ hg; have GE275 := gs_ hg; replace HB := Aside0.mk (below_step oB hb); clear hb hbox hg) | ((with_reducible refine gate_dst (N := 4) rfl ?_); refine bx_ 4 #[.int .i64 0, .int .i64 0, .int .i64 0, .slice none 0 0, .slice none 0 0, .slice none 0 0] 64 ?_; intro gb276 hg w8 hbox hb; have BK276 := Aside0.mk (hbox); have GW276 := gs_ hg; have GE276 := gs_ hg; have NB275_276 := nl_ hg BK275; have NB276_275 := nr_ hg BK275; replace BK275 := kb_ BK275 hb; replace HB := Aside0.mk (below_step oB hb); clear hb hbox hg; have hnb9 := NB275_276.out; have hnc9 := NB276_275.out; obtain ⟨⟨_, _⟩, _, _⟩ := z2 BK275) | ((with_reducible refine gate_callee (f := 33) rfl ?_); refine gl_ 13 Tryd.func33 (spec_Walk.calls k _ _ l0_0 a0_1 a1 t277 t278 _ (kC HR0_0) HC0_0.out A3.out) ?_; rintro e w11 ⟨rfl, hb⟩; refine ⟨_, rfl, ?_⟩; replace BK275 := kb_ BK275 hb; replace BK276 := kb_ BK276 hb; replace HB := Aside0.mk (below_step oB hb); obtain ⟨⟨_, _⟩, _, _⟩ := z2 BK275) | ((with_reducible refine gate_callee (f := 72) rfl ?_); refine gl_ 23 Tryd.func72 (spec_InodeAt.calls k _ _ l0_0 a0_1 t277 t279 t280 t281 t282 t285 t288 true _ (kC HR0_0) HC0_0.out A5.out) ?_; rintro e w13 ⟨v283, v286, v289, rfl, ho0, ho1, ho2, hb⟩; refine ⟨_, rfl, ?_⟩; have HO284 := Aside0.mk (Kd.R_lower ho0 (below_size oB)); have HO287 := Aside0.mk (Kd.R_lower ho1 (below_size oB)); have HO290 := Aside0.mk (Kd.R_lower ho2 (below_size oB)); replace BK275 := kb_ BK275 hb; replace BK276 := kb_ BK276 hb; replace HB := Aside0.mk (below_step oB hb); (try clear ho1); (try clear ho2)) | ((with_reducible refine gate_dst (N := 8) rfl ?_); refine bx_ 8 #[.int .i64 0, .int .i64 0, .int .i64 0, .slice none 0 0, .slice none 0 0, .slice none 0 0] 64 ?_; intro gb292 hg w14 hbox hb; have BK292 := Aside0.mk (hbox); have GW292 := gs_ hg; have GE292 := gs_ hg; have NB275_292 := nl_ hg BK275; have NB292_275 := nr_ hg BK275; have NB276_292 := nl_ hg BK276; have NB292_276 := nr_ hg BK276; replace HO284 := kr_ HO284 hb; replace HO287 := kr_ HO287 hb; replace HO290 := kr_ HO290 hb; replace BK275 := kb_ BK275 hb; replace BK276 := kb_ BK276 hb; replace HB := Aside0.mk (below_step oB hb); clear hb hbox hg; have hnb15 := NB292_275.out; have hnc15 := NB275_292.out; have hnb16 := NB292_276.out; have hnc16 := NB276_292.out; obtain ⟨⟨_, _, _, _, _, _⟩, _, _, _, _, _, _⟩ := z6 BK292; obtain ⟨Ao18, co18, eo18⟩ := Kd.R_slice HO284.out; subst eo18; obtain ⟨Ao19, co19, eo19⟩ := Kd.R_slice HO287.out; subst eo19; obtain ⟨Ao20, co20, eo20⟩ := Kd.R_slice HO290.out; subst eo20; obtain ⟨⟨_, _, _, _, _, _⟩, _, _, _, _, _, _⟩ := z6 BK276))
   refine bodyPost_ret (results_ct rfl _ _ gb276 64 #[.int .i64 t279, .int .i64 t280, .int .i64 t281, .slice Ao18 t282.length co18, .slice Ao19 t285.length co19, .slice Ao20 t288.length co20] (0, 0) _ rfl (by (with_reducible repeat (first | refine blk_drewN ?_ _ | refine blk_drew ?_ | refine blk_alloc ?_ _)); refine blk_put (cs := #[.int .i64 t279, .int .i64 t280, .int .i64 t281, .slice Ao18 t282.length co18, .slice Ao19 t285.length co19, .slice none 0 0]) ?_ 5 _ rfl; (with_reducible repeat (first | refine blk_drewN ?_ _ | refine blk_drew ?_ | refine blk_alloc ?_ _)); refine blk_put (cs := #[.int .i64 t279, .int .i64 t280, .int .i64 t281, .slice Ao18 t282.length co18, .slice none 0 0, .slice none 0 0]) ?_ 4 _ rfl; (with_reducible repeat (first | refine blk_drewN ?_ _ | refine blk_drew ?_ | refine blk_alloc ?_ _)); refine blk_put (cs := #[.int .i64 t279, .int .i64 t280, .int .i64 t281, .slice none 0 0, .slice none 0 0, .slice none 0 0]) ?_ 3 _ rfl; (with_reducible repeat (first | refine blk_drewN ?_ _ | refine blk_drew ?_ | refine blk_alloc ?_ _)); refine blk_put (cs := #[.int .i64 t279, .int .i64 t280, .int .i64 0, .slice none 0 0, .slice none 0 0, .slice none 0 0]) ?_ 2 _ rfl; (with_reducible repeat (first | refine blk_drewN ?_ _ | refine blk_drew ?_ | refine blk_alloc ?_ _)); refine blk_put (cs := #[.int .i64 t279, .int .i64 0, .int .i64 0, .slice none 0 0, .slice none 0 0, .slice none 0 0]) ?_ 1 _ rfl; (with_reducible repeat (first | refine blk_drewN ?_ _ | refine blk_drew ?_ | refine blk_alloc ?_ _)); refine blk_put (cs := #[.int .i64 0, .int .i64 0, .int .i64 0, .slice none 0 0, .slice none 0 0, .slice none 0 0]) ?_ 0 _ rfl; (with_reducible repeat (first | refine blk_drewN ?_ _ | refine blk_drew ?_ | refine blk_alloc ?_ _)); refine blk_far ?_ NB276_292.out _; (with_reducible repeat (first | refine blk_drewN ?_ _ | refine blk_drew ?_ | refine blk_alloc ?_ _)); refine blk_far ?_ NB276_292.out _; (with_reducible repeat (first | refine blk_drewN ?_ _ | refine blk_drew ?_ | refine blk_alloc ?_ _)); refine blk_far ?_ NB276_292.out _; (with_reducible repeat (first | refine blk_drewN ?_ _ | refine blk_drew ?_ | refine blk_alloc ?_ _)); refine blk_far ?_ NB276_292.out _; (with_reducible repeat (first | refine blk_drewN ?_ _ | refine blk_drew ?_ | refine blk_alloc ?_ _)); refine blk_far ?_ NB276_292.out _; (with_reducible repeat (first | refine blk_drewN ?_ _ | refine blk_drew ?_ | refine blk_alloc ?_ _)); refine blk_far ?_ NB276_292.out _; (with_reducible repeat (first | refine blk_drewN ?_ _ | refine blk_drew ?_ | refine blk_alloc ?_ _)); exact BK276.out) Tryd.underlying64 rfl (by kernel_rfl)) rfl ?_
   exact ⟨_, _, _, oE, by (with_reducible repeat (first | apply Kd.R_alloc | apply Kd.R_drewN | apply Kd.R_drew)); exact Kd.R_mono (Kd.R_far (p := ⟨gb276, 5, none⟩) (Kd.R_far (p := ⟨gb276, 4, none⟩) (Kd.R_far (p := ⟨gb276, 3, none⟩) (Kd.R_far (p := ⟨gb276, 2, none⟩) (Kd.R_far (p := ⟨gb276, 1, none⟩) (Kd.R_far (p := ⟨gb276, 0, none⟩) (Kd.R_far (p := ⟨gb292, 5, none⟩) (Kd.R_far (p := ⟨gb292, 4, none⟩) (Kd.R_far (p := ⟨gb292, 3, none⟩) (Kd.R_far (p := ⟨gb292, 2, none⟩) (Kd.R_far (p := ⟨gb292, 1, none⟩) (Kd.R_far (p := ⟨gb292, 0, none⟩) (Kd.R_types (Kd.R_types HO284.out BK292.out (by decide)) BK276.out (by decide)) (fun _ hk => hk.1.2) (.int .i64 t279)) (fun _ hk => hk.1.2) (.int .i64 t280)) (fun _ hk => hk.1.2) (.int .i64 t281)) (fun _ hk => hk.1.2) (.slice Ao18 t282.length co18)) (fun _ hk => hk.1.2) (.slice Ao19 t285.length co19)) (fun _ hk => hk.1.2) (.slice Ao20 t288.length co20)) (fun _ hk => hk.2) (.int .i64 t279)) (fun _ hk => hk.2) (.int .i64 t280)) (fun _ hk => hk.2) (.int .i64 t281)) (fun _ hk => hk.2) (.slice Ao18 t282.length co18)) (fun _ hk => hk.2) (.slice Ao19 t285.length co19)) (fun _ hk => hk.2) (.slice Ao20 t288.length co20)) (fun _ hk => trivial), by (with_reducible repeat (first | apply Kd.R_alloc | apply Kd.R_drewN | apply Kd.R_drew)); exact Kd.R_mono (Kd.R_far (p := ⟨gb276, 5, none⟩) (Kd.R_far (p := ⟨gb276, 4, none⟩) (Kd.R_far (p := ⟨gb276, 3, none⟩) (Kd.R_far (p := ⟨gb276, 2, none⟩) (Kd.R_far (p := ⟨gb276, 1, none⟩) (Kd.R_far (p := ⟨gb276, 0, none⟩) (Kd.R_far (p := ⟨gb292, 5, none⟩) (Kd.R_far (p := ⟨gb292, 4, none⟩) (Kd.R_far (p := ⟨gb292, 3, none⟩) (Kd.R_far (p := ⟨gb292, 2, none⟩) (Kd.R_far (p := ⟨gb292, 1, none⟩) (Kd.R_far (p := ⟨gb292, 0, none⟩) (Kd.R_types (Kd.R_types HO287.out BK292.out (by decide)) BK276.out (by decide)) (fun _ hk => hk.1.2) (.int .i64 t279)) (fun _ hk => hk.1.2) (.int .i64 t280)) (fun _ hk => hk.1.2) (.int .i64 t281)) (fun _ hk => hk.1.2) (.slice Ao18 t282.length co18)) (fun _ hk => hk.1.2) (.slice Ao19 t285.length co19)) (fun _ hk => hk.1.2) (.slice Ao20 t288.length co20)) (fun _ hk => hk.2) (.int .i64 t279)) (fun _ hk => hk.2) (.int .i64 t280)) (fun _ hk => hk.2) (.int .i64 t281)) (fun _ hk => hk.2) (.slice Ao18 t282.length co18)) (fun _ hk => hk.2) (.slice Ao19 t285.length co19)) (fun _ hk => hk.2) (.slice Ao20 t288.length co20)) (fun _ hk => trivial), by (with_reducible repeat (first | apply Kd.R_alloc | apply Kd.R_drewN | apply Kd.R_drew)); exact Kd.R_mono (Kd.R_far (p := ⟨gb276, 5, none⟩) (Kd.R_far (p := ⟨gb276, 4, none⟩) (Kd.R_far (p := ⟨gb276, 3, none⟩) (Kd.R_far (p := ⟨gb276, 2, none⟩) (Kd.R_far (p := ⟨gb276, 1, none⟩) (Kd.R_far (p := ⟨gb276, 0, none⟩) (Kd.R_far (p := ⟨gb292, 5, none⟩) (Kd.R_far (p := ⟨gb292, 4, none⟩) (Kd.R_far (p := ⟨gb292, 3, none⟩) (Kd.R_far (p := ⟨gb292, 2, none⟩) (Kd.R_far (p := ⟨gb292, 1, none⟩) (Kd.R_far (p := ⟨gb292, 0, none⟩) (Kd.R_types (Kd.R_types HO290.out BK292.out (by decide)) BK276.out (by decide)) (fun _ hk => hk.1.2) (.int .i64 t279)) (fun _ hk => hk.1.2) (.int .i64 t280)) (fun _ hk => hk.1.2) (.int .i64 t281)) (fun _ hk => hk.1.2) (.slice Ao18 t282.length co18)) (fun _ hk => hk.1.2) (.slice Ao19 t285.length co19)) (fun _ hk => hk.1.2) (.slice Ao20 t288.length co20)) (fun _ hk => hk.2) (.int .i64 t279)) (fun _ hk => hk.2) (.int .i64 t280)) (fun _ hk => hk.2) (.int .i64 t281)) (fun _ hk => hk.2) (.slice Ao18 t282.length co18)) (fun _ hk => hk.2) (.slice Ao19 t285.length co19)) (fun _ hk => hk.2) (.slice Ao20 t288.length co20)) (fun _ hk => trivial), oB⟩
  ·simp only [Option.some.injEq, Prod.mk.injEq] at H
   obtain ⟨rfl, rfl, rfl, rfl, rfl, rfl, rfl⟩ := H
   go_enter Tryd.func47, Tryd.ntmps47
   go_wp2_with (first | ((with_reducible refine gate_dst (N := 2) rfl ?_); refine bx_ 2 #[.slice A0_0 l0_0.length c0_0, .int .i64 a0_1] 46 ?_; intro gb275 hg w22 hbox hb; have BK275 := Aside0.mk (hbox); have GW275 := gs_ hg; have GE275 := gs_ hg; replace HB := Aside0.mk (below_step oB hb); clear hb hbox hg) | ((with_reducible refine gate_dst (N := 4) rfl ?_); refine bx_ 4 #[.int .i64 0, .int .i64 0, .int .i64 0, .slice none 0 0, .slice none 0 0, .slice none 0 0] 64 ?_; intro gb276 hg w23 hbox hb; have BK276 := Aside0.mk (hbox); have GW276 := gs_ hg; have GE276 := gs_ hg; have NB275_276 := nl_ hg BK275; have NB276_275 := nr_ hg BK275; replace BK275 := kb_ BK275 hb; replace HB := Aside0.mk (below_step oB hb); clear hb hbox hg; have hnb24 := NB275_276.out; have hnc24 := NB276_275.out; obtain ⟨⟨_, _⟩, _, _⟩ := z2 BK275) | ((with_reducible refine gate_callee (f := 33) rfl ?_); refine gl_ 13 Tryd.func33 (spec_Walk.calls k _ _ l0_0 a0_1 a1 t277 t278 _ (kC HR0_0) HC0_0.out A3.out) ?_; rintro e w26 ⟨rfl, hb⟩; refine ⟨_, rfl, ?_⟩; replace BK275 := kb_ BK275 hb; replace BK276 := kb_ BK276 hb; replace HB := Aside0.mk (below_step oB hb); obtain ⟨⟨_, _⟩, _, _⟩ := z2 BK275) | ((with_reducible refine gate_callee (f := 72) rfl ?_); refine gl_ 23 Tryd.func72 (spec_InodeAt.calls k _ _ l0_0 a0_1 t277 t279 t280 t281 t282 t285 t288 false _ (kC HR0_0) HC0_0.out A5.out) ?_; rintro e w28 ⟨v283, v286, v289, rfl, ho0, ho1, ho2, hb⟩; refine ⟨_, rfl, ?_⟩; have HO284 := Aside0.mk (Kd.R_lower ho0 (below_size oB)); have HO287 := Aside0.mk (Kd.R_lower ho1 (below_size oB)); have HO290 := Aside0.mk (Kd.R_lower ho2 (below_size oB)); replace BK275 := kb_ BK275 hb; replace BK276 := kb_ BK276 hb; replace HB := Aside0.mk (below_step oB hb); (try clear ho1); (try clear ho2)) | ((with_reducible refine gate_dst (N := 8) rfl ?_); refine bx_ 8 #[.int .i64 0, .int .i64 0, .int .i64 0, .slice none 0 0, .slice none 0 0, .slice none 0 0] 64 ?_; intro gb292 hg w29 hbox hb; have BK292 := Aside0.mk (hbox); have GW292 := gs_ hg; have GE292 := gs_ hg; have NB275_292 := nl_ hg BK275; have NB292_275 := nr_ hg BK275; have NB276_292 := nl_ hg BK276; have NB292_276 := nr_ hg BK276; replace HO284 := kr_ HO284 hb; replace HO287 := kr_ HO287 hb; replace HO290 := kr_ HO290 hb; replace BK275 := kb_ BK275 hb; replace BK276 := kb_ BK276 hb; replace HB := Aside0.mk (below_step oB hb); clear hb hbox hg; have hnb30 := NB292_275.out; have hnc30 := NB275_292.out; have hnb31 := NB292_276.out; have hnc31 := NB276_292.out; obtain ⟨⟨_, _, _, _, _, _⟩, _, _, _, _, _, _⟩ := z6 BK292; obtain ⟨Ao33, co33, eo33⟩ := Kd.R_slice HO284.out; subst eo33; obtain ⟨Ao34, co34, eo34⟩ := Kd.R_slice HO287.out; subst eo34; obtain ⟨Ao35, co35, eo35⟩ := Kd.R_slice HO290.out; subst eo35; obtain ⟨⟨_, _, _, _, _, _⟩, _, _, _, _, _, _⟩ := z6 BK276))
   refine bodyPost_ret (results_ct rfl _ _ gb276 64 #[.int .i64 0, .int .i64 0, .int .i64 0, .slice none 0 0, .slice none 0 0, .slice none 0 0] (0, 0) _ rfl (by (with_reducible repeat (first | refine blk_drewN ?_ _ | refine blk_drew ?_ | refine blk_alloc ?_ _)); refine blk_put (cs := #[.int .i64 0, .int .i64 0, .int .i64 0, .slice none 0 0, .slice none 0 0, .slice none 0 0]) ?_ 5 _ rfl; (with_reducible repeat (first | refine blk_drewN ?_ _ | refine blk_drew ?_ | refine blk_alloc ?_ _)); refine blk_put (cs := #[.int .i64 0, .int .i64 0, .int .i64 0, .slice none 0 0, .slice none 0 0, .slice none 0 0]) ?_ 4 _ rfl; (with_reducible repeat (first | refine blk_drewN ?_ _ | refine blk_drew ?_ | refine blk_alloc ?_ _)); refine blk_put (cs := #[.int .i64 0, .int .i64 0, .int .i64 0, .slice none 0 0, .slice none 0 0, .slice none 0 0]) ?_ 3 _ rfl; (with_reducible repeat (first | refine blk_drewN ?_ _ | refine blk_drew ?_ | refine blk_alloc ?_ _)); refine blk_put (cs := #[.int .i64 0, .int .i64 0, .int .i64 0, .slice none 0 0, .slice none 0 0, .slice none 0 0]) ?_ 2 _ rfl; (with_reducible repeat (first | refine blk_drewN ?_ _ | refine blk_drew ?_ | refine blk_alloc ?_ _)); refine blk_put (cs := #[.int .i64 0, .int .i64 0, .int .i64 0, .slice none 0 0, .slice none 0 0, .slice none 0 0]) ?_ 1 _ rfl; (with_reducible repeat (first | refine blk_drewN ?_ _ | refine blk_drew ?_ | refine blk_alloc ?_ _)); refine blk_put (cs := #[.int .i64 0, .int .i64 0, .int .i64 0, .slice none 0 0, .slice none 0 0, .slice none 0 0]) ?_ 0 _ rfl; (with_reducible repeat (first | refine blk_drewN ?_ _ | refine blk_drew ?_ | refine blk_alloc ?_ _)); refine blk_far ?_ NB276_292.out _; (with_reducible repeat (first | refine blk_drewN ?_ _ | refine blk_drew ?_ | refine blk_alloc ?_ _)); refine blk_far ?_ NB276_292.out _; (with_reducible repeat (first | refine blk_drewN ?_ _ | refine blk_drew ?_ | refine blk_alloc ?_ _)); refine blk_far ?_ NB276_292.out _; (with_reducible repeat (first | refine blk_drewN ?_ _ | refine blk_drew ?_ | refine blk_alloc ?_ _)); refine blk_far ?_ NB276_292.out _; (with_reducible repeat (first | refine blk_drewN ?_ _ | refine blk_drew ?_ | refine blk_alloc ?_ _)); refine blk_far ?_ NB276_292.out _; (with_reducible repeat (first | refine blk_drewN ?_ _ | refine blk_drew ?_ | refine blk_alloc ?_ _)); refine blk_far ?_ NB276_292.out _; (with_reducible repeat (first | refine blk_drewN ?_ _ | refine blk_drew ?_ | refine blk_alloc ?_ _)); exact BK276.out) Tryd.underlying64 rfl (by kernel_rfl)) rfl ?_
   exact ⟨_, _, _, oE, by first | exact Kd.R_nil _ _ _ _ _ | exact Kd.N_nil _ _ _ _ _ | exact Kd.V_nil _ _ _ _ _ | exact Kd.Q_nil _ _ _ _ _ | exact Kd.S_nil _ _ _ _ _, by first | exact Kd.R_nil _ _ _ _ _ | exact Kd.N_nil _ _ _ _ _ | exact Kd.V_nil _ _ _ _ _ | exact Kd.Q_nil _ _ _ _ _ | exact Kd.S_nil _ _ _ _ _, by first | exact Kd.R_nil _ _ _ _ _ | exact Kd.N_nil _ _ _ _ _ | exact Kd.V_nil _ _ _ _ _ | exact Kd.Q_nil _ _ _ _ _ | exact Kd.S_nil _ _ _ _ _, oB⟩
 ·rw [if_neg c4] at H
  have c4b0 : (t278 == 0) = false := beq_eq_false_iff_ne.mpr c4
  have c4b1 : (t278 != 0) = true := bne_iff_ne.mpr c4
  simp only [Option.some.injEq, Prod.mk.injEq] at H
  obtain ⟨rfl, rfl, rfl, rfl, rfl, rfl, rfl⟩ := H
  go_enter Tryd.func47, Tryd.ntmps47
  go_wp2_with (first | ((with_reducible refine gate_dst (N := 2) rfl ?_); refine bx_ 2 #[.slice A0_0 l0_0.length c0_0, .int .i64 a0_1] 46 ?_; intro gb275 hg w37 hbox hb; have BK275 := Aside0.mk (hbox); have GW275 := gs_ hg; have GE275 := gs_ hg; replace HB := Aside0.mk (below_step oB hb); clear hb hbox hg) | ((with_reducible refine gate_dst (N := 4) rfl ?_); refine bx_ 4 #[.int .i64 0, .int .i64 0, .int .i64 0, .slice none 0 0, .slice none 0 0, .slice none 0 0] 64 ?_; intro gb276 hg w38 hbox hb; have BK276 := Aside0.mk (hbox); have GW276 := gs_ hg; have GE276 := gs_ hg; have NB275_276 := nl_ hg BK275; have NB276_275 := nr_ hg BK275; replace BK275 := kb_ BK275 hb; replace HB := Aside0.mk (below_step oB hb); clear hb hbox hg; have hnb39 := NB275_276.out; have hnc39 := NB276_275.out; obtain ⟨⟨_, _⟩, _, _⟩ := z2 BK275) | ((with_reducible refine gate_callee (f := 33) rfl ?_); refine gl_ 13 Tryd.func33 (spec_Walk.calls k _ _ l0_0 a0_1 a1 t277 t278 _ (kC HR0_0) HC0_0.out A3.out) ?_; rintro e w41 ⟨rfl, hb⟩; refine ⟨_, rfl, ?_⟩; replace BK275 := kb_ BK275 hb; replace BK276 := kb_ BK276 hb; replace HB := Aside0.mk (below_step oB hb); obtain ⟨⟨_, _, _, _, _, _⟩, _, _, _, _, _, _⟩ := z6 BK276))
  refine bodyPost_ret (results_ct rfl _ _ gb276 64 #[.int .i64 0, .int .i64 0, .int .i64 0, .slice none 0 0, .slice none 0 0, .slice none 0 0] (0, 0) _ rfl (by (with_reducible repeat (first | refine blk_drewN ?_ _ | refine blk_drew ?_ | refine blk_alloc ?_ _)); refine blk_put (cs := #[.int .i64 0, .int .i64 0, .int .i64 0, .slice none 0 0, .slice none 0 0, .slice none 0 0]) ?_ 5 _ rfl; (with_reducible repeat (first | refine blk_drewN ?_ _ | refine blk_drew ?_ | refine blk_alloc ?_ _)); refine blk_put (cs := #[.int .i64 0, .int .i64 0, .int .i64 0, .slice none 0 0, .slice none 0 0, .slice none 0 0]) ?_ 4 _ rfl; (with_reducible repeat (first | refine blk_drewN ?_ _ | refine blk_drew ?_ | refine blk_alloc ?_ _)); refine blk_put (cs := #[.int .i64 0, .int .i64 0, .int .i64 0, .slice none 0 0, .slice none 0 0, .slice none 0 0]) ?_ 3 _ rfl; (with_reducible repeat (first | refine blk_drewN ?_ _ | refine blk_drew ?_ | refine blk_alloc ?_ _)); refine blk_put (cs := #[.int .i64 0, .int .i64 0, .int .i64 0, .slice none 0 0, .slice none 0 0, .slice none 0 0]) ?_ 2 _ rfl; (with_reducible repeat (first | refine blk_drewN ?_ _ | refine blk_drew ?_ | refine blk_alloc ?_ _)); refine blk_put (cs := #[.int .i64 0, .int .i64 0, .int .i64 0, .slice none 0 0, .slice none 0 0, .slice none 0 0]) ?_ 1 _ rfl; (with_reducible repeat (first | refine blk_drewN ?_ _ | refine blk_drew ?_ | refine blk_alloc ?_ _)); refine blk_put (cs := #[.int .i64 0, .int .i64 0, .int .i64 0, .slice none 0 0, .slice none 0 0, .slice none 0 0]) ?_ 0 _ rfl; (with_reducible repeat (first | refine blk_drewN ?_ _ | refine blk_drew ?_ | refine blk_alloc ?_ _)); exact BK276.out) Tryd.underlying64 rfl (by kernel_rfl)) rfl ?_
  exact ⟨_, _, _, oE, by first | exact Kd.R_nil _ _ _ _ _ | exact Kd.N_nil _ _ _ _ _ | exact Kd.V_nil _ _ _ _ _ | exact Kd.Q_nil _ _ _ _ _ | exact Kd.S_nil _ _ _ _ _, by first | exact Kd.R_nil _ _ _ _ _ | exact Kd.N_nil _ _ _ _ _ | exact Kd.V_nil _ _ _ _ _ | exact Kd.Q_nil _ _ _ _ _ | exact Kd.S_nil _ _ _ _ _, by first | exact Kd.R_nil _ _ _ _ _ | exact Kd.N_nil _ _ _ _ _ | exact Kd.V_nil _ _ _ _ _ | exact Kd.Q_nil _ _ _ _ _ | exact Kd.S_nil _ _ _ _ _, oB⟩

end Go.Proofs.YtkfcmpalbhmmaaaDoor.P
