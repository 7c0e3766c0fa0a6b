-- By this session's own program (wip/myprint.py) out of the translation; Lean checks it.
import Derived.Test.YtkknehgaebhbeaaPx0
import Derived.Test.YtkknehgaebhbeaaPx3
import Derived.Test.YtkknehgaebhbeaaPx6
namespace Go.Proofs.Ytkknehgaebhbeaa.P
open Go.RowKit Go.Proofs.YtkknehgaebhbeaaW.PrintWords Go.Proofs.YtkknehgaebhbeaaW.PrintLast Go.Proofs.YtkknehgaebhbeaaW.PrintMore
attribute [local go_sem] max2_int min2_int max_two min_two max_three min_three max_four min_four   -- for this text's walks alone
set_option linter.unusedVariables false
set_option linter.unusedSimpArgs false

/-! ### laws_heldAttrS: function 106 -/
def laws_heldAttrS.l0 : Nat → List (S85) → Int → Int → Option (Int)
 | 0, _, _, _ => none
 | k + 1, x0, x1, x5 => if x5 < (x0.length : Int) then (if 0 ≤ x5 then ((laws_markText.f k x1).bind fun t281 => (if ((rd_T85 x0 x5).f0).toList = t281.toList then ((laws_markText.f k (wrap64 (x1 + 1))).bind fun t283 => (if ((rd_T85 x0 x5).f1).toList = t283.toList then (laws_heldAttrS.l0 k x0 (wrap64 ((wrap64 (x1 + 1)) + 1)) (wrap64 (x5 + 1))) else (some (-1)))) else (some (-1)))) else (none)) else (some x1)
def laws_heldAttrS.f (k : Nat) (l0 : List (S85)) (a1 : Int) : Option (Int) := laws_heldAttrS.l0 k l0 a1 0
def laws_heldAttrS.T4 : Bool × List (List Nat × List Nat) := (true, [([], []), ([], []), ([0, 1], [0, 1]), ([2], [2]), ([3], [3]), ([], []), ([5], [5]), ([4, 6], [4, 6])])
def laws_heldAttrS.B4 : List Nat := [0, 0, 3, 7, 15, 0, 32, 127]
theorem laws_heldAttrS.tab4 : rtab .any (opsOf Try.f106 4) = laws_heldAttrS.T4 := by kernel_rfl
theorem laws_heldAttrS.bits4 : waitsOk laws_heldAttrS.T4.2 laws_heldAttrS.B4 = true := by kernel_rfl
def laws_heldAttrS.T7 : Bool × List (List Nat × List Nat) := (true, [([], []), ([], []), ([0, 1], [0, 1]), ([2], [2]), ([3], [3]), ([], []), ([5], [5]), ([4, 6], [4, 6])])
def laws_heldAttrS.B7 : List Nat := [0, 0, 3, 7, 15, 0, 32, 127]
theorem laws_heldAttrS.tab7 : rtab .any (opsOf Try.f106 7) = laws_heldAttrS.T7 := by kernel_rfl
theorem laws_heldAttrS.bits7 : waitsOk laws_heldAttrS.T7.2 laws_heldAttrS.B7 = true := by kernel_rfl
set_option maxHeartbeats 8000000 in
set_option maxRecDepth 100000 in
theorem laws_heldAttrS.calls (k : Nat) (A0 : Option Addr) (c0 : Nat) (l0 : List (S85)) (a1 : Int) (r : Int) (w : World) (hr0 : Kd.C k85 w A0 l0.length l0) (hc0 : l0.length ≤ c0) (h : laws_heldAttrS.f k l0 a1 = some r) :
  Calls Try.prog 106 #[.slice A0 l0.length c0, .int .i64 a1] w fun e w' => e = .returned (.int .i64 r) ∧ Below w.heap.size w w' := by
 have HR0 := Aside0.mk hr0
 have HC0 := Aside0.mk hc0
 clear hr0 hc0
 have HB := Aside0.mk (Below.refl w.heap.size w)
 unfold laws_heldAttrS.f at h
 have H := h
 clear h
 have H' := Aside0.mk H
 clear H
 go_enter Try.func106, Try.ntmps106
 go_wp2
 go_loopg [1, 5] k (fun kq v1 v5 w' => ∃ (x1_1 : Int) (x5_1 : Int), v1 = .int .i64 x1_1 ∧ v5 = .int .i64 x5_1 ∧ Aside0 (laws_heldAttrS.l0 kq l0 x1_1 x5_1 = some r) ∧ Aside0 (kq ≤ k) ∧ Aside0 (Below w.heap.size w w'))
 case atStart => exact ⟨(a1), (0), oS, oS, H', ⟨Nat.le_refl _⟩, ⟨oB⟩⟩
 case round =>
  clear H'
  obtain ⟨x1_1, x5_1, rfl, rfl, HA, HK1, HB⟩ := hrel
  cases gk with
  | zero => exact absurd HA.out (by simp [laws_heldAttrS.l0])
  | succ k1 =>
   have H := HA.out
   clear HA
   simp only [laws_heldAttrS.l0] at H
   replace H := itD H
   rcases H with ⟨c3b0, H⟩ | ⟨c3b0, H⟩
   ·replace H := itD H
    rcases H with ⟨c4b0, H⟩ | ⟨c4b0, H⟩
    ·replace H := bA H
     obtain ⟨t281, A5, H⟩ := H
     try dsimp only at H
     by_cases c6 : ((rd_T85 l0 x5_1).f0).toList = t281.toList
     ·rw [if_pos c6] at H
      have c6b0 : (((rd_T85 l0 x5_1).f0).toList == t281.toList) = true := beq_iff_eq.mpr c6
      have c6b1 : (((rd_T85 l0 x5_1).f0).toList != t281.toList) = false := bne_eq_false_iff_eq.mpr c6
      clear c6
      replace H := bA H
      obtain ⟨t283, A7, H⟩ := H
      try dsimp only at H
      by_cases c8 : ((rd_T85 l0 x5_1).f1).toList = t283.toList
      ·rw [if_pos c8] at H
       have c8b0 : (((rd_T85 l0 x5_1).f1).toList == t283.toList) = true := beq_iff_eq.mpr c8
       have c8b1 : (((rd_T85 l0 x5_1).f1).toList != t283.toList) = false := bne_eq_false_iff_eq.mpr c8
       clear c8
       have H' := Aside0.mk H
       clear H
       try go_wp2
       replace HB := Aside0.mk (below_drew1 HB.out)
       have p280 : (0 ≤ (x5_1 : Int)) = True := oT
       have q280 : (x5_1 < (l0.length : Int)) = True := oT
       obtain ⟨ad280, e280, hx280_0, hx280_1⟩ := at_T85 HR0.out x5_1 oa oa
       have hw280_1 := hx280_1
       have hw280_0 := hx280_0
       cases e280
       replace hx280_0 := cB HB hx280_0
       replace hx280_1 := cB HB hx280_1
       refine st_ 8 (fun w' => w'.cell? (ad280.add ((x5_1).toNat * 2)) = some (.string ((rd_T85 l0 x5_1).f0)) ∧ w'.cell? ⟨(ad280.add ((x5_1).toNat * 2)).block, (ad280.add ((x5_1).toNat * 2)).off + 1, none⟩ = some (.string ((rd_T85 l0 x5_1).f1))) laws_heldAttrS.tab4 laws_heldAttrS.bits4 oH (fun hHeld HT_ HW_ => ?_)
       generalize wr.drew = w9 at HB hx280_0 hx280_1 hHeld ⊢
       refine pu_ 0 12 HT_ ?_
       refine pu_ 1 13 HT_ ?_
       refine pu_ 2 14 HT_ ?_
       refine pu_ 3 15 HT_ ?_
       refine pu_ 5 17 HT_ ?_
       refine ta_ 4 16 HT_ HW_ hHeld ?_
       refine on_ 6 18 HT_ (fun K hK => ?_)
       refine gr_ 18 Try.func132 (laws_markText.calls k1 x1_1 t281 _ A5.out) ?_
       rintro e w10 ⟨rfl, hb⟩
       refine ⟨_, rfl, ?_⟩
       replace HB := Aside0.mk (below_step oB hb)
       refine hk_ hK 18 oH (fun hHeld => ?_)
       clear hK K
       refine pu_ 7 19 HT_ ?_
       refine dn_ HT_ ?_
       try go_wp2
       replace HB := Aside0.mk (below_drew1 HB.out)
       have p282 : (0 ≤ (x5_1 : Int)) = True := oT
       have q282 : (x5_1 < (l0.length : Int)) = True := oT
       obtain ⟨ad282, e282, hx282_0, hx282_1⟩ := at_T85 HR0.out x5_1 oa oa
       have hw282_1 := hx282_1
       have hw282_0 := hx282_0
       obtain rfl : ad280 = ad282 := (by injection e282)
       replace hx282_0 := cB HB hx282_0
       replace hx282_1 := cB HB hx282_1
       refine st_ 8 (fun w' => w'.cell? (ad280.add ((x5_1).toNat * 2)) = some (.string ((rd_T85 l0 x5_1).f0)) ∧ w'.cell? ⟨(ad280.add ((x5_1).toNat * 2)).block, (ad280.add ((x5_1).toNat * 2)).off + 1, none⟩ = some (.string ((rd_T85 l0 x5_1).f1))) laws_heldAttrS.tab7 laws_heldAttrS.bits7 oH (fun hHeld HT_ HW_ => ?_)
       generalize w10.drew = w11 at HB hx282_0 hx282_1 hHeld ⊢
       refine pu_ 0 22 HT_ ?_
       refine pu_ 1 23 HT_ ?_
       refine pu_ 2 24 HT_ ?_
       refine pu_ 3 25 HT_ ?_
       refine pu_ 5 27 HT_ ?_
       refine ta_ 4 26 HT_ HW_ hHeld ?_
       refine on_ 6 28 HT_ (fun K hK => ?_)
       refine gr_ 28 Try.func132 (laws_markText.calls k1 (wrap64 (x1_1 + 1)) t283 _ A7.out) ?_
       rintro e w12 ⟨rfl, hb⟩
       refine ⟨_, rfl, ?_⟩
       replace HB := Aside0.mk (below_step oB hb)
       refine hk_ hK 28 oH (fun hHeld => ?_)
       clear hK K
       refine pu_ 7 29 HT_ ?_
       refine dn_ HT_ ?_
       try go_wp2
       go_roundg k1
       case measure => have := HK1.out; omega
       case rel => exact ⟨(wrap64 ((wrap64 (x1_1 + 1)) + 1)), (wrap64 (x5_1 + 1)), oS, oS, H', ⟨by have := HK1.out; omega⟩, ⟨oB⟩⟩
      ·rw [if_neg c8] at H
       have c8b0 : (((rd_T85 l0 x5_1).f1).toList == t283.toList) = false := beq_eq_false_iff_ne.mpr c8
       have c8b1 : (((rd_T85 l0 x5_1).f1).toList != t283.toList) = true := bne_iff_ne.mpr c8
       obtain rfl := Option.some.inj H
       try go_wp2
       replace HB := Aside0.mk (below_drew1 HB.out)
       have p280 : (0 ≤ (x5_1 : Int)) = True := oT
       have q280 : (x5_1 < (l0.length : Int)) = True := oT
       obtain ⟨ad280, e280, hx280_0, hx280_1⟩ := at_T85 HR0.out x5_1 oa oa
       have hw280_1 := hx280_1
       have hw280_0 := hx280_0
       cases e280
       replace hx280_0 := cB HB hx280_0
       replace hx280_1 := cB HB hx280_1
       refine st_ 8 (fun w' => w'.cell? (ad280.add ((x5_1).toNat * 2)) = some (.string ((rd_T85 l0 x5_1).f0)) ∧ w'.cell? ⟨(ad280.add ((x5_1).toNat * 2)).block, (ad280.add ((x5_1).toNat * 2)).off + 1, none⟩ = some (.string ((rd_T85 l0 x5_1).f1))) laws_heldAttrS.tab4 laws_heldAttrS.bits4 oH (fun hHeld HT_ HW_ => ?_)
       generalize wr.drew = w13 at HB hx280_0 hx280_1 hHeld ⊢
       refine pu_ 0 12 HT_ ?_
       refine pu_ 1 13 HT_ ?_
       refine pu_ 2 14 HT_ ?_
       refine pu_ 3 15 HT_ ?_
       refine pu_ 5 17 HT_ ?_
       refine ta_ 4 16 HT_ HW_ hHeld ?_
       refine on_ 6 18 HT_ (fun K hK => ?_)
       refine gr_ 18 Try.func132 (laws_markText.calls k1 x1_1 t281 _ A5.out) ?_
       rintro e w14 ⟨rfl, hb⟩
       refine ⟨_, rfl, ?_⟩
       replace HB := Aside0.mk (below_step oB hb)
       refine hk_ hK 18 oH (fun hHeld => ?_)
       clear hK K
       refine pu_ 7 19 HT_ ?_
       refine dn_ HT_ ?_
       try go_wp2
       replace HB := Aside0.mk (below_drew1 HB.out)
       have p282 : (0 ≤ (x5_1 : Int)) = True := oT
       have q282 : (x5_1 < (l0.length : Int)) = True := oT
       obtain ⟨ad282, e282, hx282_0, hx282_1⟩ := at_T85 HR0.out x5_1 oa oa
       have hw282_1 := hx282_1
       have hw282_0 := hx282_0
       obtain rfl : ad280 = ad282 := (by injection e282)
       replace hx282_0 := cB HB hx282_0
       replace hx282_1 := cB HB hx282_1
       refine st_ 8 (fun w' => w'.cell? (ad280.add ((x5_1).toNat * 2)) = some (.string ((rd_T85 l0 x5_1).f0)) ∧ w'.cell? ⟨(ad280.add ((x5_1).toNat * 2)).block, (ad280.add ((x5_1).toNat * 2)).off + 1, none⟩ = some (.string ((rd_T85 l0 x5_1).f1))) laws_heldAttrS.tab7 laws_heldAttrS.bits7 oH (fun hHeld HT_ HW_ => ?_)
       generalize w14.drew = w15 at HB hx282_0 hx282_1 hHeld ⊢
       refine pu_ 0 22 HT_ ?_
       refine pu_ 1 23 HT_ ?_
       refine pu_ 2 24 HT_ ?_
       refine pu_ 3 25 HT_ ?_
       refine pu_ 5 27 HT_ ?_
       refine ta_ 4 26 HT_ HW_ hHeld ?_
       refine on_ 6 28 HT_ (fun K hK => ?_)
       refine gr_ 28 Try.func132 (laws_markText.calls k1 (wrap64 (x1_1 + 1)) t283 _ A7.out) ?_
       rintro e w16 ⟨rfl, hb⟩
       refine ⟨_, rfl, ?_⟩
       replace HB := Aside0.mk (below_step oB hb)
       refine hk_ hK 28 oH (fun hHeld => ?_)
       clear hK K
       refine pu_ 7 29 HT_ ?_
       refine dn_ HT_ ?_
       try go_wp2
       go_ret
       exact ⟨oE, oB⟩
     ·rw [if_neg c6] at H
      have c6b0 : (((rd_T85 l0 x5_1).f0).toList == t281.toList) = false := beq_eq_false_iff_ne.mpr c6
      have c6b1 : (((rd_T85 l0 x5_1).f0).toList != t281.toList) = true := bne_iff_ne.mpr c6
      obtain rfl := Option.some.inj H
      try go_wp2
      replace HB := Aside0.mk (below_drew1 HB.out)
      have p280 : (0 ≤ (x5_1 : Int)) = True := oT
      have q280 : (x5_1 < (l0.length : Int)) = True := oT
      obtain ⟨ad280, e280, hx280_0, hx280_1⟩ := at_T85 HR0.out x5_1 oa oa
      have hw280_1 := hx280_1
      have hw280_0 := hx280_0
      cases e280
      replace hx280_0 := cB HB hx280_0
      replace hx280_1 := cB HB hx280_1
      refine st_ 8 (fun w' => w'.cell? (ad280.add ((x5_1).toNat * 2)) = some (.string ((rd_T85 l0 x5_1).f0)) ∧ w'.cell? ⟨(ad280.add ((x5_1).toNat * 2)).block, (ad280.add ((x5_1).toNat * 2)).off + 1, none⟩ = some (.string ((rd_T85 l0 x5_1).f1))) laws_heldAttrS.tab4 laws_heldAttrS.bits4 oH (fun hHeld HT_ HW_ => ?_)
      generalize wr.drew = w17 at HB hx280_0 hx280_1 hHeld ⊢
      refine pu_ 0 12 HT_ ?_
      refine pu_ 1 13 HT_ ?_
      refine pu_ 2 14 HT_ ?_
      refine pu_ 3 15 HT_ ?_
      refine pu_ 5 17 HT_ ?_
      refine ta_ 4 16 HT_ HW_ hHeld ?_
      refine on_ 6 18 HT_ (fun K hK => ?_)
      refine gr_ 18 Try.func132 (laws_markText.calls k1 x1_1 t281 _ A5.out) ?_
      rintro e w18 ⟨rfl, hb⟩
      refine ⟨_, rfl, ?_⟩
      replace HB := Aside0.mk (below_step oB hb)
      refine hk_ hK 18 oH (fun hHeld => ?_)
      clear hK K
      refine pu_ 7 19 HT_ ?_
      refine dn_ HT_ ?_
      try go_wp2
      go_ret
      exact ⟨oE, oB⟩
    ·cases H
   ·obtain rfl := Option.some.inj H
    go_wp2
    go_ret
    exact ⟨oE, oB⟩

/-! ### laws_heldInodeS: function 72 -/
def laws_heldInodeS.l0 : Nat → List (S45) → Int → Int → Option (Int)
 | 0, _, _, _ => none
 | k + 1, x0, x1, x5 => if x5 < (x0.length : Int) then (if 0 ≤ x5 then (if ((rd_T45 x0 x5).f0) = x1 then (if ((rd_T45 x0 x5).f1) = (wrap64 (x1 + 1)) then (if ((rd_T45 x0 x5).f2) = (wrap64 ((wrap64 (x1 + 1)) + 1)) then ((laws_heldByteS.f k ((rd_T45 x0 x5).f3) (wrap64 ((wrap64 ((wrap64 (x1 + 1)) + 1)) + 1))).bind fun t288 => (if t288 < 0 then (some (-1)) else ((laws_heldEntS.f k ((rd_T45 x0 x5).f4) t288).bind fun t290 => (if t290 < 0 then (some (-1)) else ((laws_heldAttrS.f k ((rd_T45 x0 x5).f5) t290).bind fun t292 => (if t292 < 0 then (some (-1)) else (laws_heldInodeS.l0 k x0 t292 (wrap64 (x5 + 1))))))))) else (some (-1))) else (some (-1))) else (some (-1))) else (none)) else (some x1)
def laws_heldInodeS.f (k : Nat) (l0 : List (S45)) (a1 : Int) : Option (Int) := laws_heldInodeS.l0 k l0 a1 0
set_option maxHeartbeats 8000000 in
set_option maxRecDepth 100000 in
theorem laws_heldInodeS.calls (k : Nat) (A0 : Option Addr) (c0 : Nat) (l0 : List (S45)) (a1 : Int) (r : Int) (w : World) (hr0 : Kd.C k45 w A0 l0.length l0) (hc0 : l0.length ≤ c0) (h : laws_heldInodeS.f k l0 a1 = some r) :
  Calls Try.prog 72 #[.slice A0 l0.length c0, .int .i64 a1] w fun e w' => e = .returned (.int .i64 r) ∧ Below w.heap.size w w' := by
 have HR0 := Aside0.mk hr0
 have HC0 := Aside0.mk hc0
 clear hr0 hc0
 have HB := Aside0.mk (Below.refl w.heap.size w)
 unfold laws_heldInodeS.f at h
 have H := h
 clear h
 have H' := Aside0.mk H
 clear H
 go_enter Try.func72, Try.ntmps72
 go_wp2
 go_loopg [1, 5] k (fun kq v1 v5 w' => ∃ (x1_1 : Int) (x5_1 : Int), v1 = .int .i64 x1_1 ∧ v5 = .int .i64 x5_1 ∧ Aside0 (laws_heldInodeS.l0 kq l0 x1_1 x5_1 = some r) ∧ Aside0 (kq ≤ k) ∧ Aside0 (Below w.heap.size w w'))
 case atStart => exact ⟨(a1), (0), oS, oS, H', ⟨Nat.le_refl _⟩, ⟨oB⟩⟩
 case round =>
  clear H'
  obtain ⟨x1_1, x5_1, rfl, rfl, HA, HK1, HB⟩ := hrel
  cases gk with
  | zero => exact absurd HA.out (by simp [laws_heldInodeS.l0])
  | succ k1 =>
   have H := HA.out
   clear HA
   simp only [laws_heldInodeS.l0] at H
   replace H := itD H
   rcases H with ⟨c3b0, H⟩ | ⟨c3b0, H⟩
   ·replace H := itD H
    rcases H with ⟨c4b0, H⟩ | ⟨c4b0, H⟩
    ·by_cases c5 : ((rd_T45 l0 x5_1).f0) = x1_1
     ·rw [if_pos c5] at H
      have c5b0 : (((rd_T45 l0 x5_1).f0) == x1_1) = true := beq_iff_eq.mpr c5
      have c5b1 : (((rd_T45 l0 x5_1).f0) != x1_1) = false := bne_eq_false_iff_eq.mpr c5
      clear c5
      by_cases c6 : ((rd_T45 l0 x5_1).f1) = (wrap64 (x1_1 + 1))
      ·rw [if_pos c6] at H
       have c6b0 : (((rd_T45 l0 x5_1).f1) == (wrap64 (x1_1 + 1))) = true := beq_iff_eq.mpr c6
       have c6b1 : (((rd_T45 l0 x5_1).f1) != (wrap64 (x1_1 + 1))) = false := bne_eq_false_iff_eq.mpr c6
       clear c6
       by_cases c7 : ((rd_T45 l0 x5_1).f2) = (wrap64 ((wrap64 (x1_1 + 1)) + 1))
       ·rw [if_pos c7] at H
        have c7b0 : (((rd_T45 l0 x5_1).f2) == (wrap64 ((wrap64 (x1_1 + 1)) + 1))) = true := beq_iff_eq.mpr c7
        have c7b1 : (((rd_T45 l0 x5_1).f2) != (wrap64 ((wrap64 (x1_1 + 1)) + 1))) = false := bne_eq_false_iff_eq.mpr c7
        clear c7
        replace H := bA H
        obtain ⟨t288, A8, H⟩ := H
        try dsimp only at H
        replace H := itD H
        rcases H with ⟨c9b0, H⟩ | ⟨c9b0, H⟩
        ·obtain rfl := Option.some.inj H
         have p284 : (0 ≤ (x5_1 : Int)) = True := oT
         have q284 : (x5_1 < (l0.length : Int)) = True := oT
         obtain ⟨ad284, A284_3, c284_3, A284_4, c284_4, A284_5, c284_5, e284, hx284_0, hx284_1, hx284_2, hx284_3, hx284_4, hx284_5, hl284_3, hi284_3, hl284_4, hi284_4, hl284_5, hi284_5⟩ := at_T45 HR0.out x5_1 oa oa
         cases e284
         replace hx284_0 := cB HB hx284_0
         replace hx284_1 := cB HB hx284_1
         replace hx284_2 := cB HB hx284_2
         replace hx284_3 := cB HB hx284_3
         replace hx284_4 := cB HB hx284_4
         replace hx284_5 := cB HB hx284_5
         have HR284_3 := Aside0.mk hi284_3
         have HC284_3 := Aside0.mk hl284_3
         clear hi284_3 hl284_3
         have HR284_4 := Aside0.mk hi284_4
         have HC284_4 := Aside0.mk hl284_4
         clear hi284_4 hl284_4
         have HR284_5 := Aside0.mk hi284_5
         have HC284_5 := Aside0.mk hl284_5
         clear hi284_5 hl284_5
         have p285 : (0 ≤ (x5_1 : Int)) = True := oT
         have q285 : (x5_1 < (l0.length : Int)) = True := oT
         obtain ⟨ad285, A285_3, c285_3, A285_4, c285_4, A285_5, c285_5, e285, hx285_0, hx285_1, hx285_2, hx285_3, hx285_4, hx285_5, hl285_3, hi285_3, hl285_4, hi285_4, hl285_5, hi285_5⟩ := at_T45 HR0.out x5_1 oa oa
         obtain rfl : ad284 = ad285 := (by injection e285)
         replace hx285_0 := cB HB hx285_0
         replace hx285_1 := cB HB hx285_1
         replace hx285_2 := cB HB hx285_2
         replace hx285_3 := cB HB hx285_3
         replace hx285_4 := cB HB hx285_4
         replace hx285_5 := cB HB hx285_5
         have HR285_3 := Aside0.mk hi285_3
         have HC285_3 := Aside0.mk hl285_3
         clear hi285_3 hl285_3
         have HR285_4 := Aside0.mk hi285_4
         have HC285_4 := Aside0.mk hl285_4
         clear hi285_4 hl285_4
         have HR285_5 := Aside0.mk hi285_5
         have HC285_5 := Aside0.mk hl285_5
         clear hi285_5 hl285_5
         have ea_ := Option.some.inj (hx284_3.symm.trans hx285_3)
         injection ea_ with ea_ en_ ec_
         subst ea_
         subst ec_
         clear en_
         have ea_ := Option.some.inj (hx284_4.symm.trans hx285_4)
         injection ea_ with ea_ en_ ec_
         subst ea_
         subst ec_
         clear en_
         have ea_ := Option.some.inj (hx284_5.symm.trans hx285_5)
         injection ea_ with ea_ en_ ec_
         subst ea_
         subst ec_
         clear en_
         have p286 : (0 ≤ (x5_1 : Int)) = True := oT
         have q286 : (x5_1 < (l0.length : Int)) = True := oT
         obtain ⟨ad286, A286_3, c286_3, A286_4, c286_4, A286_5, c286_5, e286, hx286_0, hx286_1, hx286_2, hx286_3, hx286_4, hx286_5, hl286_3, hi286_3, hl286_4, hi286_4, hl286_5, hi286_5⟩ := at_T45 HR0.out x5_1 oa oa
         obtain rfl : ad284 = ad286 := (by injection e286)
         replace hx286_0 := cB HB hx286_0
         replace hx286_1 := cB HB hx286_1
         replace hx286_2 := cB HB hx286_2
         replace hx286_3 := cB HB hx286_3
         replace hx286_4 := cB HB hx286_4
         replace hx286_5 := cB HB hx286_5
         have HR286_3 := Aside0.mk hi286_3
         have HC286_3 := Aside0.mk hl286_3
         clear hi286_3 hl286_3
         have HR286_4 := Aside0.mk hi286_4
         have HC286_4 := Aside0.mk hl286_4
         clear hi286_4 hl286_4
         have HR286_5 := Aside0.mk hi286_5
         have HC286_5 := Aside0.mk hl286_5
         clear hi286_5 hl286_5
         have ea_ := Option.some.inj (hx284_3.symm.trans hx286_3)
         injection ea_ with ea_ en_ ec_
         subst ea_
         subst ec_
         clear en_
         have ea_ := Option.some.inj (hx284_4.symm.trans hx286_4)
         injection ea_ with ea_ en_ ec_
         subst ea_
         subst ec_
         clear en_
         have ea_ := Option.some.inj (hx284_5.symm.trans hx286_5)
         injection ea_ with ea_ en_ ec_
         subst ea_
         subst ec_
         clear en_
         have p287 : (0 ≤ (x5_1 : Int)) = True := oT
         have q287 : (x5_1 < (l0.length : Int)) = True := oT
         obtain ⟨ad287, A287_3, c287_3, A287_4, c287_4, A287_5, c287_5, e287, hx287_0, hx287_1, hx287_2, hx287_3, hx287_4, hx287_5, hl287_3, hi287_3, hl287_4, hi287_4, hl287_5, hi287_5⟩ := at_T45 HR0.out x5_1 oa oa
         obtain rfl : ad284 = ad287 := (by injection e287)
         replace hx287_0 := cB HB hx287_0
         replace hx287_1 := cB HB hx287_1
         replace hx287_2 := cB HB hx287_2
         replace hx287_3 := cB HB hx287_3
         replace hx287_4 := cB HB hx287_4
         replace hx287_5 := cB HB hx287_5
         have HR287_3 := Aside0.mk hi287_3
         have HC287_3 := Aside0.mk hl287_3
         clear hi287_3 hl287_3
         have HR287_4 := Aside0.mk hi287_4
         have HC287_4 := Aside0.mk hl287_4
         clear hi287_4 hl287_4
         have HR287_5 := Aside0.mk hi287_5
         have HC287_5 := Aside0.mk hl287_5
         clear hi287_5 hl287_5
         have ea_ := Option.some.inj (hx284_3.symm.trans hx287_3)
         injection ea_ with ea_ en_ ec_
         subst ea_
         subst ec_
         clear en_
         have ea_ := Option.some.inj (hx284_4.symm.trans hx287_4)
         injection ea_ with ea_ en_ ec_
         subst ea_
         subst ec_
         clear en_
         have ea_ := Option.some.inj (hx284_5.symm.trans hx287_5)
         injection ea_ with ea_ en_ ec_
         subst ea_
         subst ec_
         clear en_
         go_wp2_with (first | ((with_reducible refine gate_callee (f := 50) rfl ?_); refine gl_ 45 Try.func50 (laws_heldByteS.calls k1 _ _ ((rd_T45 l0 x5_1).f3) (wrap64 ((wrap64 ((wrap64 (x1_1 + 1)) + 1)) + 1)) t288 _ (kC HR287_3) HC287_3.out A8.out) ?_; rintro e w' ⟨rfl, ⟨nd, rfl⟩⟩; refine ⟨_, rfl, ?_⟩))
         go_ret
         exact ⟨oE, oB⟩
        ·replace H := bA H
         obtain ⟨t290, A10, H⟩ := H
         try dsimp only at H
         replace H := itD H
         rcases H with ⟨c11b0, H⟩ | ⟨c11b0, H⟩
         ·obtain rfl := Option.some.inj H
          have p284 : (0 ≤ (x5_1 : Int)) = True := oT
          have q284 : (x5_1 < (l0.length : Int)) = True := oT
          obtain ⟨ad284, A284_3, c284_3, A284_4, c284_4, A284_5, c284_5, e284, hx284_0, hx284_1, hx284_2, hx284_3, hx284_4, hx284_5, hl284_3, hi284_3, hl284_4, hi284_4, hl284_5, hi284_5⟩ := at_T45 HR0.out x5_1 oa oa
          cases e284
          replace hx284_0 := cB HB hx284_0
          replace hx284_1 := cB HB hx284_1
          replace hx284_2 := cB HB hx284_2
          replace hx284_3 := cB HB hx284_3
          replace hx284_4 := cB HB hx284_4
          replace hx284_5 := cB HB hx284_5
          have HR284_3 := Aside0.mk hi284_3
          have HC284_3 := Aside0.mk hl284_3
          clear hi284_3 hl284_3
          have HR284_4 := Aside0.mk hi284_4
          have HC284_4 := Aside0.mk hl284_4
          clear hi284_4 hl284_4
          have HR284_5 := Aside0.mk hi284_5
          have HC284_5 := Aside0.mk hl284_5
          clear hi284_5 hl284_5
          have p285 : (0 ≤ (x5_1 : Int)) = True := oT
          have q285 : (x5_1 < (l0.length : Int)) = True := oT
          obtain ⟨ad285, A285_3, c285_3, A285_4, c285_4, A285_5, c285_5, e285, hx285_0, hx285_1, hx285_2, hx285_3, hx285_4, hx285_5, hl285_3, hi285_3, hl285_4, hi285_4, hl285_5, hi285_5⟩ := at_T45 HR0.out x5_1 oa oa
          obtain rfl : ad284 = ad285 := (by injection e285)
          replace hx285_0 := cB HB hx285_0
          replace hx285_1 := cB HB hx285_1
          replace hx285_2 := cB HB hx285_2
          replace hx285_3 := cB HB hx285_3
          replace hx285_4 := cB HB hx285_4
          replace hx285_5 := cB HB hx285_5
          have HR285_3 := Aside0.mk hi285_3
          have HC285_3 := Aside0.mk hl285_3
          clear hi285_3 hl285_3
          have HR285_4 := Aside0.mk hi285_4
          have HC285_4 := Aside0.mk hl285_4
          clear hi285_4 hl285_4
          have HR285_5 := Aside0.mk hi285_5
          have HC285_5 := Aside0.mk hl285_5
          clear hi285_5 hl285_5
          have ea_ := Option.some.inj (hx284_3.symm.trans hx285_3)
          injection ea_ with ea_ en_ ec_
          subst ea_
          subst ec_
          clear en_
          have ea_ := Option.some.inj (hx284_4.symm.trans hx285_4)
          injection ea_ with ea_ en_ ec_
          subst ea_
          subst ec_
          clear en_
          have ea_ := Option.some.inj (hx284_5.symm.trans hx285_5)
          injection ea_ with ea_ en_ ec_
          subst ea_
          subst ec_
          clear en_
          have p286 : (0 ≤ (x5_1 : Int)) = True := oT
          have q286 : (x5_1 < (l0.length : Int)) = True := oT
          obtain ⟨ad286, A286_3, c286_3, A286_4, c286_4, A286_5, c286_5, e286, hx286_0, hx286_1, hx286_2, hx286_3, hx286_4, hx286_5, hl286_3, hi286_3, hl286_4, hi286_4, hl286_5, hi286_5⟩ := at_T45 HR0.out x5_1 oa oa
          obtain rfl : ad284 = ad286 := (by injection e286)
          replace hx286_0 := cB HB hx286_0
          replace hx286_1 := cB HB hx286_1
          replace hx286_2 := cB HB hx286_2
          replace hx286_3 := cB HB hx286_3
          replace hx286_4 := cB HB hx286_4
          replace hx286_5 := cB HB hx286_5
          have HR286_3 := Aside0.mk hi286_3
          have HC286_3 := Aside0.mk hl286_3
          clear hi286_3 hl286_3
          have HR286_4 := Aside0.mk hi286_4
          have HC286_4 := Aside0.mk hl286_4
          clear hi286_4 hl286_4
          have HR286_5 := Aside0.mk hi286_5
          have HC286_5 := Aside0.mk hl286_5
          clear hi286_5 hl286_5
          have ea_ := Option.some.inj (hx284_3.symm.trans hx286_3)
          injection ea_ with ea_ en_ ec_
          subst ea_
          subst ec_
          clear en_
          have ea_ := Option.some.inj (hx284_4.symm.trans hx286_4)
          injection ea_ with ea_ en_ ec_
          subst ea_
          subst ec_
          clear en_
          have ea_ := Option.some.inj (hx284_5.symm.trans hx286_5)
          injection ea_ with ea_ en_ ec_
          subst ea_
          subst ec_
          clear en_
          have p287 : (0 ≤ (x5_1 : Int)) = True := oT
          have q287 : (x5_1 < (l0.length : Int)) = True := oT
          obtain ⟨ad287, A287_3, c287_3, A287_4, c287_4, A287_5, c287_5, e287, hx287_0, hx287_1, hx287_2, hx287_3, hx287_4, hx287_5, hl287_3, hi287_3, hl287_4, hi287_4, hl287_5, hi287_5⟩ := at_T45 HR0.out x5_1 oa oa
          obtain rfl : ad284 = ad287 := (by injection e287)
          replace hx287_0 := cB HB hx287_0
          replace hx287_1 := cB HB hx287_1
          replace hx287_2 := cB HB hx287_2
          replace hx287_3 := cB HB hx287_3
          replace hx287_4 := cB HB hx287_4
          replace hx287_5 := cB HB hx287_5
          have HR287_3 := Aside0.mk hi287_3
          have HC287_3 := Aside0.mk hl287_3
          clear hi287_3 hl287_3
          have HR287_4 := Aside0.mk hi287_4
          have HC287_4 := Aside0.mk hl287_4
          clear hi287_4 hl287_4
          have HR287_5 := Aside0.mk hi287_5
          have HC287_5 := Aside0.mk hl287_5
          clear hi287_5 hl287_5
          have ea_ := Option.some.inj (hx284_3.symm.trans hx287_3)
          injection ea_ with ea_ en_ ec_
          subst ea_
          subst ec_
          clear en_
          have ea_ := Option.some.inj (hx284_4.symm.trans hx287_4)
          injection ea_ with ea_ en_ ec_
          subst ea_
          subst ec_
          clear en_
          have ea_ := Option.some.inj (hx284_5.symm.trans hx287_5)
          injection ea_ with ea_ en_ ec_
          subst ea_
          subst ec_
          clear en_
          go_wp2_with (first | ((with_reducible refine gate_callee (f := 50) rfl ?_); refine gl_ 45 Try.func50 (laws_heldByteS.calls k1 _ _ ((rd_T45 l0 x5_1).f3) (wrap64 ((wrap64 ((wrap64 (x1_1 + 1)) + 1)) + 1)) t288 _ (kC HR287_3) HC287_3.out A8.out) ?_; rintro e w' ⟨rfl, ⟨nd, rfl⟩⟩; refine ⟨_, rfl, ?_⟩; have p289 : (0 ≤ (x5_1 : Int)) = True := oT; have q289 : (x5_1 < (l0.length : Int)) = True := oT; obtain ⟨ad289, A289_3, c289_3, A289_4, c289_4, A289_5, c289_5, e289, hx289_0, hx289_1, hx289_2, hx289_3, hx289_4, hx289_5, hl289_3, hi289_3, hl289_4, hi289_4, hl289_5, hi289_5⟩ := at_T45 HR0.out x5_1 oa oa; obtain rfl : ad284 = ad289 := (by injection e289); replace hx289_0 := cB HB hx289_0; replace hx289_1 := cB HB hx289_1; replace hx289_2 := cB HB hx289_2; replace hx289_3 := cB HB hx289_3; replace hx289_4 := cB HB hx289_4; replace hx289_5 := cB HB hx289_5; have HR289_3 := Aside0.mk hi289_3; have HC289_3 := Aside0.mk hl289_3; clear hi289_3 hl289_3; have HR289_4 := Aside0.mk hi289_4; have HC289_4 := Aside0.mk hl289_4; clear hi289_4 hl289_4; have HR289_5 := Aside0.mk hi289_5; have HC289_5 := Aside0.mk hl289_5; clear hi289_5 hl289_5; have ea_ := Option.some.inj (hx284_3.symm.trans hx289_3); injection ea_ with ea_ en_ ec_; subst ea_; subst ec_; clear en_; have ea_ := Option.some.inj (hx284_4.symm.trans hx289_4); injection ea_ with ea_ en_ ec_; subst ea_; subst ec_; clear en_; have ea_ := Option.some.inj (hx284_5.symm.trans hx289_5); injection ea_ with ea_ en_ ec_; subst ea_; subst ec_; clear en_) | ((with_reducible refine gate_callee (f := 105) rfl ?_); refine gl_ 54 Try.func105 (laws_heldEntS.calls k1 _ _ ((rd_T45 l0 x5_1).f4) t288 t290 _ (kC HR289_4) HC289_4.out A10.out) ?_; rintro e w12 ⟨rfl, hb⟩; refine ⟨_, rfl, ?_⟩; replace HB := Aside0.mk (below_step oB hb)))
          go_ret
          exact ⟨oE, oB⟩
         ·replace H := bA H
          obtain ⟨t292, A13, H⟩ := H
          try dsimp only at H
          replace H := itD H
          rcases H with ⟨c14b0, H⟩ | ⟨c14b0, H⟩
          ·obtain rfl := Option.some.inj H
           have p284 : (0 ≤ (x5_1 : Int)) = True := oT
           have q284 : (x5_1 < (l0.length : Int)) = True := oT
           obtain ⟨ad284, A284_3, c284_3, A284_4, c284_4, A284_5, c284_5, e284, hx284_0, hx284_1, hx284_2, hx284_3, hx284_4, hx284_5, hl284_3, hi284_3, hl284_4, hi284_4, hl284_5, hi284_5⟩ := at_T45 HR0.out x5_1 oa oa
           cases e284
           replace hx284_0 := cB HB hx284_0
           replace hx284_1 := cB HB hx284_1
           replace hx284_2 := cB HB hx284_2
           replace hx284_3 := cB HB hx284_3
           replace hx284_4 := cB HB hx284_4
           replace hx284_5 := cB HB hx284_5
           have HR284_3 := Aside0.mk hi284_3
           have HC284_3 := Aside0.mk hl284_3
           clear hi284_3 hl284_3
           have HR284_4 := Aside0.mk hi284_4
           have HC284_4 := Aside0.mk hl284_4
           clear hi284_4 hl284_4
           have HR284_5 := Aside0.mk hi284_5
           have HC284_5 := Aside0.mk hl284_5
           clear hi284_5 hl284_5
           have p285 : (0 ≤ (x5_1 : Int)) = True := oT
           have q285 : (x5_1 < (l0.length : Int)) = True := oT
           obtain ⟨ad285, A285_3, c285_3, A285_4, c285_4, A285_5, c285_5, e285, hx285_0, hx285_1, hx285_2, hx285_3, hx285_4, hx285_5, hl285_3, hi285_3, hl285_4, hi285_4, hl285_5, hi285_5⟩ := at_T45 HR0.out x5_1 oa oa
           obtain rfl : ad284 = ad285 := (by injection e285)
           replace hx285_0 := cB HB hx285_0
           replace hx285_1 := cB HB hx285_1
           replace hx285_2 := cB HB hx285_2
           replace hx285_3 := cB HB hx285_3
           replace hx285_4 := cB HB hx285_4
           replace hx285_5 := cB HB hx285_5
           have HR285_3 := Aside0.mk hi285_3
           have HC285_3 := Aside0.mk hl285_3
           clear hi285_3 hl285_3
           have HR285_4 := Aside0.mk hi285_4
           have HC285_4 := Aside0.mk hl285_4
           clear hi285_4 hl285_4
           have HR285_5 := Aside0.mk hi285_5
           have HC285_5 := Aside0.mk hl285_5
           clear hi285_5 hl285_5
           have ea_ := Option.some.inj (hx284_3.symm.trans hx285_3)
           injection ea_ with ea_ en_ ec_
           subst ea_
           subst ec_
           clear en_
           have ea_ := Option.some.inj (hx284_4.symm.trans hx285_4)
           injection ea_ with ea_ en_ ec_
           subst ea_
           subst ec_
           clear en_
           have ea_ := Option.some.inj (hx284_5.symm.trans hx285_5)
           injection ea_ with ea_ en_ ec_
           subst ea_
           subst ec_
           clear en_
           have p286 : (0 ≤ (x5_1 : Int)) = True := oT
           have q286 : (x5_1 < (l0.length : Int)) = True := oT
           obtain ⟨ad286, A286_3, c286_3, A286_4, c286_4, A286_5, c286_5, e286, hx286_0, hx286_1, hx286_2, hx286_3, hx286_4, hx286_5, hl286_3, hi286_3, hl286_4, hi286_4, hl286_5, hi286_5⟩ := at_T45 HR0.out x5_1 oa oa
           obtain rfl : ad284 = ad286 := (by injection e286)
           replace hx286_0 := cB HB hx286_0
           replace hx286_1 := cB HB hx286_1
           replace hx286_2 := cB HB hx286_2
           replace hx286_3 := cB HB hx286_3
           replace hx286_4 := cB HB hx286_4
           replace hx286_5 := cB HB hx286_5
           have HR286_3 := Aside0.mk hi286_3
           have HC286_3 := Aside0.mk hl286_3
           clear hi286_3 hl286_3
           have HR286_4 := Aside0.mk hi286_4
           have HC286_4 := Aside0.mk hl286_4
           clear hi286_4 hl286_4
           have HR286_5 := Aside0.mk hi286_5
           have HC286_5 := Aside0.mk hl286_5
           clear hi286_5 hl286_5
           have ea_ := Option.some.inj (hx284_3.symm.trans hx286_3)
           injection ea_ with ea_ en_ ec_
           subst ea_
           subst ec_
           clear en_
           have ea_ := Option.some.inj (hx284_4.symm.trans hx286_4)
           injection ea_ with ea_ en_ ec_
           subst ea_
           subst ec_
           clear en_
           have ea_ := Option.some.inj (hx284_5.symm.trans hx286_5)
           injection ea_ with ea_ en_ ec_
           subst ea_
           subst ec_
           clear en_
           have p287 : (0 ≤ (x5_1 : Int)) = True := oT
           have q287 : (x5_1 < (l0.length : Int)) = True := oT
           obtain ⟨ad287, A287_3, c287_3, A287_4, c287_4, A287_5, c287_5, e287, hx287_0, hx287_1, hx287_2, hx287_3, hx287_4, hx287_5, hl287_3, hi287_3, hl287_4, hi287_4, hl287_5, hi287_5⟩ := at_T45 HR0.out x5_1 oa oa
           obtain rfl : ad284 = ad287 := (by injection e287)
           replace hx287_0 := cB HB hx287_0
           replace hx287_1 := cB HB hx287_1
           replace hx287_2 := cB HB hx287_2
           replace hx287_3 := cB HB hx287_3
           replace hx287_4 := cB HB hx287_4
           replace hx287_5 := cB HB hx287_5
           have HR287_3 := Aside0.mk hi287_3
           have HC287_3 := Aside0.mk hl287_3
           clear hi287_3 hl287_3
           have HR287_4 := Aside0.mk hi287_4
           have HC287_4 := Aside0.mk hl287_4
           clear hi287_4 hl287_4
           have HR287_5 := Aside0.mk hi287_5
           have HC287_5 := Aside0.mk hl287_5
           clear hi287_5 hl287_5
           have ea_ := Option.some.inj (hx284_3.symm.trans hx287_3)
           injection ea_ with ea_ en_ ec_
           subst ea_
           subst ec_
           clear en_
           have ea_ := Option.some.inj (hx284_4.symm.trans hx287_4)
           injection ea_ with ea_ en_ ec_
           subst ea_
           subst ec_
           clear en_
           have ea_ := Option.some.inj (hx284_5.symm.trans hx287_5)
           injection ea_ with ea_ en_ ec_
           subst ea_
           subst ec_
           clear en_
           go_wp2_with (first | ((with_reducible refine gate_callee (f := 50) rfl ?_); refine gl_ 45 Try.func50 (laws_heldByteS.calls k1 _ _ ((rd_T45 l0 x5_1).f3) (wrap64 ((wrap64 ((wrap64 (x1_1 + 1)) + 1)) + 1)) t288 _ (kC HR287_3) HC287_3.out A8.out) ?_; rintro e w' ⟨rfl, ⟨nd, rfl⟩⟩; refine ⟨_, rfl, ?_⟩; have p289 : (0 ≤ (x5_1 : Int)) = True := oT; have q289 : (x5_1 < (l0.length : Int)) = True := oT; obtain ⟨ad289, A289_3, c289_3, A289_4, c289_4, A289_5, c289_5, e289, hx289_0, hx289_1, hx289_2, hx289_3, hx289_4, hx289_5, hl289_3, hi289_3, hl289_4, hi289_4, hl289_5, hi289_5⟩ := at_T45 HR0.out x5_1 oa oa; obtain rfl : ad284 = ad289 := (by injection e289); replace hx289_0 := cB HB hx289_0; replace hx289_1 := cB HB hx289_1; replace hx289_2 := cB HB hx289_2; replace hx289_3 := cB HB hx289_3; replace hx289_4 := cB HB hx289_4; replace hx289_5 := cB HB hx289_5; have HR289_3 := Aside0.mk hi289_3; have HC289_3 := Aside0.mk hl289_3; clear hi289_3 hl289_3; have HR289_4 := Aside0.mk hi289_4; have HC289_4 := Aside0.mk hl289_4; clear hi289_4 hl289_4; have HR289_5 := Aside0.mk hi289_5; have HC289_5 := Aside0.mk hl289_5; clear hi289_5 hl289_5; have ea_ := Option.some.inj (hx284_3.symm.trans hx289_3); injection ea_ with ea_ en_ ec_; subst ea_; subst ec_; clear en_; have ea_ := Option.some.inj (hx284_4.symm.trans hx289_4); injection ea_ with ea_ en_ ec_; subst ea_; subst ec_; clear en_; have ea_ := Option.some.inj (hx284_5.symm.trans hx289_5); injection ea_ with ea_ en_ ec_; subst ea_; subst ec_; clear en_) | ((with_reducible refine gate_callee (f := 105) rfl ?_); refine gl_ 54 Try.func105 (laws_heldEntS.calls k1 _ _ ((rd_T45 l0 x5_1).f4) t288 t290 _ (kC HR289_4) HC289_4.out A10.out) ?_; rintro e w15 ⟨rfl, hb⟩; refine ⟨_, rfl, ?_⟩; replace HB := Aside0.mk (below_step oB hb); have p291 : (0 ≤ (x5_1 : Int)) = True := oT; have q291 : (x5_1 < (l0.length : Int)) = True := oT; obtain ⟨ad291, A291_3, c291_3, A291_4, c291_4, A291_5, c291_5, e291, hx291_0, hx291_1, hx291_2, hx291_3, hx291_4, hx291_5, hl291_3, hi291_3, hl291_4, hi291_4, hl291_5, hi291_5⟩ := at_T45 HR0.out x5_1 oa oa; obtain rfl : ad284 = ad291 := (by injection e291); replace hx291_0 := cB HB hx291_0; replace hx291_1 := cB HB hx291_1; replace hx291_2 := cB HB hx291_2; replace hx291_3 := cB HB hx291_3; replace hx291_4 := cB HB hx291_4; replace hx291_5 := cB HB hx291_5; have HR291_3 := Aside0.mk hi291_3; have HC291_3 := Aside0.mk hl291_3; clear hi291_3 hl291_3; have HR291_4 := Aside0.mk hi291_4; have HC291_4 := Aside0.mk hl291_4; clear hi291_4 hl291_4; have HR291_5 := Aside0.mk hi291_5; have HC291_5 := Aside0.mk hl291_5; clear hi291_5 hl291_5) | ((with_reducible refine gate_callee (f := 106) rfl ?_); refine gl_ 63 Try.func106 (laws_heldAttrS.calls k1 _ _ ((rd_T45 l0 x5_1).f5) t290 t292 _ (kC HR291_5) HC291_5.out A13.out) ?_; rintro e w16 ⟨rfl, hb⟩; refine ⟨_, rfl, ?_⟩; replace HB := Aside0.mk (below_step oB hb)))
           go_ret
           exact ⟨oE, oB⟩
          ·have H' := Aside0.mk H
           clear H
           have p284 : (0 ≤ (x5_1 : Int)) = True := oT
           have q284 : (x5_1 < (l0.length : Int)) = True := oT
           obtain ⟨ad284, A284_3, c284_3, A284_4, c284_4, A284_5, c284_5, e284, hx284_0, hx284_1, hx284_2, hx284_3, hx284_4, hx284_5, hl284_3, hi284_3, hl284_4, hi284_4, hl284_5, hi284_5⟩ := at_T45 HR0.out x5_1 oa oa
           cases e284
           replace hx284_0 := cB HB hx284_0
           replace hx284_1 := cB HB hx284_1
           replace hx284_2 := cB HB hx284_2
           replace hx284_3 := cB HB hx284_3
           replace hx284_4 := cB HB hx284_4
           replace hx284_5 := cB HB hx284_5
           have HR284_3 := Aside0.mk hi284_3
           have HC284_3 := Aside0.mk hl284_3
           clear hi284_3 hl284_3
           have HR284_4 := Aside0.mk hi284_4
           have HC284_4 := Aside0.mk hl284_4
           clear hi284_4 hl284_4
           have HR284_5 := Aside0.mk hi284_5
           have HC284_5 := Aside0.mk hl284_5
           clear hi284_5 hl284_5
           have p285 : (0 ≤ (x5_1 : Int)) = True := oT
           have q285 : (x5_1 < (l0.length : Int)) = True := oT
           obtain ⟨ad285, A285_3, c285_3, A285_4, c285_4, A285_5, c285_5, e285, hx285_0, hx285_1, hx285_2, hx285_3, hx285_4, hx285_5, hl285_3, hi285_3, hl285_4, hi285_4, hl285_5, hi285_5⟩ := at_T45 HR0.out x5_1 oa oa
           obtain rfl : ad284 = ad285 := (by injection e285)
           replace hx285_0 := cB HB hx285_0
           replace hx285_1 := cB HB hx285_1
           replace hx285_2 := cB HB hx285_2
           replace hx285_3 := cB HB hx285_3
           replace hx285_4 := cB HB hx285_4
           replace hx285_5 := cB HB hx285_5
           have HR285_3 := Aside0.mk hi285_3
           have HC285_3 := Aside0.mk hl285_3
           clear hi285_3 hl285_3
           have HR285_4 := Aside0.mk hi285_4
           have HC285_4 := Aside0.mk hl285_4
           clear hi285_4 hl285_4
           have HR285_5 := Aside0.mk hi285_5
           have HC285_5 := Aside0.mk hl285_5
           clear hi285_5 hl285_5
           have ea_ := Option.some.inj (hx284_3.symm.trans hx285_3)
           injection ea_ with ea_ en_ ec_
           subst ea_
           subst ec_
           clear en_
           have ea_ := Option.some.inj (hx284_4.symm.trans hx285_4)
           injection ea_ with ea_ en_ ec_
           subst ea_
           subst ec_
           clear en_
           have ea_ := Option.some.inj (hx284_5.symm.trans hx285_5)
           injection ea_ with ea_ en_ ec_
           subst ea_
           subst ec_
           clear en_
           have p286 : (0 ≤ (x5_1 : Int)) = True := oT
           have q286 : (x5_1 < (l0.length : Int)) = True := oT
           obtain ⟨ad286, A286_3, c286_3, A286_4, c286_4, A286_5, c286_5, e286, hx286_0, hx286_1, hx286_2, hx286_3, hx286_4, hx286_5, hl286_3, hi286_3, hl286_4, hi286_4, hl286_5, hi286_5⟩ := at_T45 HR0.out x5_1 oa oa
           obtain rfl : ad284 = ad286 := (by injection e286)
           replace hx286_0 := cB HB hx286_0
           replace hx286_1 := cB HB hx286_1
           replace hx286_2 := cB HB hx286_2
           replace hx286_3 := cB HB hx286_3
           replace hx286_4 := cB HB hx286_4
           replace hx286_5 := cB HB hx286_5
           have HR286_3 := Aside0.mk hi286_3
           have HC286_3 := Aside0.mk hl286_3
           clear hi286_3 hl286_3
           have HR286_4 := Aside0.mk hi286_4
           have HC286_4 := Aside0.mk hl286_4
           clear hi286_4 hl286_4
           have HR286_5 := Aside0.mk hi286_5
           have HC286_5 := Aside0.mk hl286_5
           clear hi286_5 hl286_5
           have ea_ := Option.some.inj (hx284_3.symm.trans hx286_3)
           injection ea_ with ea_ en_ ec_
           subst ea_
           subst ec_
           clear en_
           have ea_ := Option.some.inj (hx284_4.symm.trans hx286_4)
           injection ea_ with ea_ en_ ec_
           subst ea_
           subst ec_
           clear en_
           have ea_ := Option.some.inj (hx284_5.symm.trans hx286_5)
           injection ea_ with ea_ en_ ec_
           subst ea_
           subst ec_
           clear en_
           have p287 : (0 ≤ (x5_1 : Int)) = True := oT
           have q287 : (x5_1 < (l0.length : Int)) = True := oT
           obtain ⟨ad287, A287_3, c287_3, A287_4, c287_4, A287_5, c287_5, e287, hx287_0, hx287_1, hx287_2, hx287_3, hx287_4, hx287_5, hl287_3, hi287_3, hl287_4, hi287_4, hl287_5, hi287_5⟩ := at_T45 HR0.out x5_1 oa oa
           obtain rfl : ad284 = ad287 := (by injection e287)
           replace hx287_0 := cB HB hx287_0
           replace hx287_1 := cB HB hx287_1
           replace hx287_2 := cB HB hx287_2
           replace hx287_3 := cB HB hx287_3
           replace hx287_4 := cB HB hx287_4
           replace hx287_5 := cB HB hx287_5
           have HR287_3 := Aside0.mk hi287_3
           have HC287_3 := Aside0.mk hl287_3
           clear hi287_3 hl287_3
           have HR287_4 := Aside0.mk hi287_4
           have HC287_4 := Aside0.mk hl287_4
           clear hi287_4 hl287_4
           have HR287_5 := Aside0.mk hi287_5
           have HC287_5 := Aside0.mk hl287_5
           clear hi287_5 hl287_5
           have ea_ := Option.some.inj (hx284_3.symm.trans hx287_3)
           injection ea_ with ea_ en_ ec_
           subst ea_
           subst ec_
           clear en_
           have ea_ := Option.some.inj (hx284_4.symm.trans hx287_4)
           injection ea_ with ea_ en_ ec_
           subst ea_
           subst ec_
           clear en_
           have ea_ := Option.some.inj (hx284_5.symm.trans hx287_5)
           injection ea_ with ea_ en_ ec_
           subst ea_
           subst ec_
           clear en_
           go_wp2_with (first | ((with_reducible refine gate_callee (f := 50) rfl ?_); refine gl_ 45 Try.func50 (laws_heldByteS.calls k1 _ _ ((rd_T45 l0 x5_1).f3) (wrap64 ((wrap64 ((wrap64 (x1_1 + 1)) + 1)) + 1)) t288 _ (kC HR287_3) HC287_3.out A8.out) ?_; rintro e w' ⟨rfl, ⟨nd, rfl⟩⟩; refine ⟨_, rfl, ?_⟩; have p289 : (0 ≤ (x5_1 : Int)) = True := oT; have q289 : (x5_1 < (l0.length : Int)) = True := oT; obtain ⟨ad289, A289_3, c289_3, A289_4, c289_4, A289_5, c289_5, e289, hx289_0, hx289_1, hx289_2, hx289_3, hx289_4, hx289_5, hl289_3, hi289_3, hl289_4, hi289_4, hl289_5, hi289_5⟩ := at_T45 HR0.out x5_1 oa oa; obtain rfl : ad284 = ad289 := (by injection e289); replace hx289_0 := cB HB hx289_0; replace hx289_1 := cB HB hx289_1; replace hx289_2 := cB HB hx289_2; replace hx289_3 := cB HB hx289_3; replace hx289_4 := cB HB hx289_4; replace hx289_5 := cB HB hx289_5; have HR289_3 := Aside0.mk hi289_3; have HC289_3 := Aside0.mk hl289_3; clear hi289_3 hl289_3; have HR289_4 := Aside0.mk hi289_4; have HC289_4 := Aside0.mk hl289_4; clear hi289_4 hl289_4; have HR289_5 := Aside0.mk hi289_5; have HC289_5 := Aside0.mk hl289_5; clear hi289_5 hl289_5; have ea_ := Option.some.inj (hx284_3.symm.trans hx289_3); injection ea_ with ea_ en_ ec_; subst ea_; subst ec_; clear en_; have ea_ := Option.some.inj (hx284_4.symm.trans hx289_4); injection ea_ with ea_ en_ ec_; subst ea_; subst ec_; clear en_; have ea_ := Option.some.inj (hx284_5.symm.trans hx289_5); injection ea_ with ea_ en_ ec_; subst ea_; subst ec_; clear en_) | ((with_reducible refine gate_callee (f := 105) rfl ?_); refine gl_ 54 Try.func105 (laws_heldEntS.calls k1 _ _ ((rd_T45 l0 x5_1).f4) t288 t290 _ (kC HR289_4) HC289_4.out A10.out) ?_; rintro e w17 ⟨rfl, hb⟩; refine ⟨_, rfl, ?_⟩; replace HB := Aside0.mk (below_step oB hb); have p291 : (0 ≤ (x5_1 : Int)) = True := oT; have q291 : (x5_1 < (l0.length : Int)) = True := oT; obtain ⟨ad291, A291_3, c291_3, A291_4, c291_4, A291_5, c291_5, e291, hx291_0, hx291_1, hx291_2, hx291_3, hx291_4, hx291_5, hl291_3, hi291_3, hl291_4, hi291_4, hl291_5, hi291_5⟩ := at_T45 HR0.out x5_1 oa oa; obtain rfl : ad284 = ad291 := (by injection e291); replace hx291_0 := cB HB hx291_0; replace hx291_1 := cB HB hx291_1; replace hx291_2 := cB HB hx291_2; replace hx291_3 := cB HB hx291_3; replace hx291_4 := cB HB hx291_4; replace hx291_5 := cB HB hx291_5; have HR291_3 := Aside0.mk hi291_3; have HC291_3 := Aside0.mk hl291_3; clear hi291_3 hl291_3; have HR291_4 := Aside0.mk hi291_4; have HC291_4 := Aside0.mk hl291_4; clear hi291_4 hl291_4; have HR291_5 := Aside0.mk hi291_5; have HC291_5 := Aside0.mk hl291_5; clear hi291_5 hl291_5) | ((with_reducible refine gate_callee (f := 106) rfl ?_); refine gl_ 63 Try.func106 (laws_heldAttrS.calls k1 _ _ ((rd_T45 l0 x5_1).f5) t290 t292 _ (kC HR291_5) HC291_5.out A13.out) ?_; rintro e w18 ⟨rfl, hb⟩; refine ⟨_, rfl, ?_⟩; replace HB := Aside0.mk (below_step oB hb)))
           go_roundg k1
           case measure => have := HK1.out; omega
           case rel => exact ⟨(t292), (wrap64 (x5_1 + 1)), oS, oS, H', ⟨by have := HK1.out; omega⟩, ⟨oB⟩⟩
       ·rw [if_neg c7] at H
        have c7b0 : (((rd_T45 l0 x5_1).f2) == (wrap64 ((wrap64 (x1_1 + 1)) + 1))) = false := beq_eq_false_iff_ne.mpr c7
        have c7b1 : (((rd_T45 l0 x5_1).f2) != (wrap64 ((wrap64 (x1_1 + 1)) + 1))) = true := bne_iff_ne.mpr c7
        obtain rfl := Option.some.inj H
        have p284 : (0 ≤ (x5_1 : Int)) = True := oT
        have q284 : (x5_1 < (l0.length : Int)) = True := oT
        obtain ⟨ad284, A284_3, c284_3, A284_4, c284_4, A284_5, c284_5, e284, hx284_0, hx284_1, hx284_2, hx284_3, hx284_4, hx284_5, hl284_3, hi284_3, hl284_4, hi284_4, hl284_5, hi284_5⟩ := at_T45 HR0.out x5_1 oa oa
        cases e284
        replace hx284_0 := cB HB hx284_0
        replace hx284_1 := cB HB hx284_1
        replace hx284_2 := cB HB hx284_2
        replace hx284_3 := cB HB hx284_3
        replace hx284_4 := cB HB hx284_4
        replace hx284_5 := cB HB hx284_5
        have HR284_3 := Aside0.mk hi284_3
        have HC284_3 := Aside0.mk hl284_3
        clear hi284_3 hl284_3
        have HR284_4 := Aside0.mk hi284_4
        have HC284_4 := Aside0.mk hl284_4
        clear hi284_4 hl284_4
        have HR284_5 := Aside0.mk hi284_5
        have HC284_5 := Aside0.mk hl284_5
        clear hi284_5 hl284_5
        have p285 : (0 ≤ (x5_1 : Int)) = True := oT
        have q285 : (x5_1 < (l0.length : Int)) = True := oT
        obtain ⟨ad285, A285_3, c285_3, A285_4, c285_4, A285_5, c285_5, e285, hx285_0, hx285_1, hx285_2, hx285_3, hx285_4, hx285_5, hl285_3, hi285_3, hl285_4, hi285_4, hl285_5, hi285_5⟩ := at_T45 HR0.out x5_1 oa oa
        obtain rfl : ad284 = ad285 := (by injection e285)
        replace hx285_0 := cB HB hx285_0
        replace hx285_1 := cB HB hx285_1
        replace hx285_2 := cB HB hx285_2
        replace hx285_3 := cB HB hx285_3
        replace hx285_4 := cB HB hx285_4
        replace hx285_5 := cB HB hx285_5
        have HR285_3 := Aside0.mk hi285_3
        have HC285_3 := Aside0.mk hl285_3
        clear hi285_3 hl285_3
        have HR285_4 := Aside0.mk hi285_4
        have HC285_4 := Aside0.mk hl285_4
        clear hi285_4 hl285_4
        have HR285_5 := Aside0.mk hi285_5
        have HC285_5 := Aside0.mk hl285_5
        clear hi285_5 hl285_5
        have ea_ := Option.some.inj (hx284_3.symm.trans hx285_3)
        injection ea_ with ea_ en_ ec_
        subst ea_
        subst ec_
        clear en_
        have ea_ := Option.some.inj (hx284_4.symm.trans hx285_4)
        injection ea_ with ea_ en_ ec_
        subst ea_
        subst ec_
        clear en_
        have ea_ := Option.some.inj (hx284_5.symm.trans hx285_5)
        injection ea_ with ea_ en_ ec_
        subst ea_
        subst ec_
        clear en_
        have p286 : (0 ≤ (x5_1 : Int)) = True := oT
        have q286 : (x5_1 < (l0.length : Int)) = True := oT
        obtain ⟨ad286, A286_3, c286_3, A286_4, c286_4, A286_5, c286_5, e286, hx286_0, hx286_1, hx286_2, hx286_3, hx286_4, hx286_5, hl286_3, hi286_3, hl286_4, hi286_4, hl286_5, hi286_5⟩ := at_T45 HR0.out x5_1 oa oa
        obtain rfl : ad284 = ad286 := (by injection e286)
        replace hx286_0 := cB HB hx286_0
        replace hx286_1 := cB HB hx286_1
        replace hx286_2 := cB HB hx286_2
        replace hx286_3 := cB HB hx286_3
        replace hx286_4 := cB HB hx286_4
        replace hx286_5 := cB HB hx286_5
        have HR286_3 := Aside0.mk hi286_3
        have HC286_3 := Aside0.mk hl286_3
        clear hi286_3 hl286_3
        have HR286_4 := Aside0.mk hi286_4
        have HC286_4 := Aside0.mk hl286_4
        clear hi286_4 hl286_4
        have HR286_5 := Aside0.mk hi286_5
        have HC286_5 := Aside0.mk hl286_5
        clear hi286_5 hl286_5
        have ea_ := Option.some.inj (hx284_3.symm.trans hx286_3)
        injection ea_ with ea_ en_ ec_
        subst ea_
        subst ec_
        clear en_
        have ea_ := Option.some.inj (hx284_4.symm.trans hx286_4)
        injection ea_ with ea_ en_ ec_
        subst ea_
        subst ec_
        clear en_
        have ea_ := Option.some.inj (hx284_5.symm.trans hx286_5)
        injection ea_ with ea_ en_ ec_
        subst ea_
        subst ec_
        clear en_
        go_wp2
        go_ret
        exact ⟨oE, oB⟩
      ·rw [if_neg c6] at H
       have c6b0 : (((rd_T45 l0 x5_1).f1) == (wrap64 (x1_1 + 1))) = false := beq_eq_false_iff_ne.mpr c6
       have c6b1 : (((rd_T45 l0 x5_1).f1) != (wrap64 (x1_1 + 1))) = true := bne_iff_ne.mpr c6
       obtain rfl := Option.some.inj H
       have p284 : (0 ≤ (x5_1 : Int)) = True := oT
       have q284 : (x5_1 < (l0.length : Int)) = True := oT
       obtain ⟨ad284, A284_3, c284_3, A284_4, c284_4, A284_5, c284_5, e284, hx284_0, hx284_1, hx284_2, hx284_3, hx284_4, hx284_5, hl284_3, hi284_3, hl284_4, hi284_4, hl284_5, hi284_5⟩ := at_T45 HR0.out x5_1 oa oa
       cases e284
       replace hx284_0 := cB HB hx284_0
       replace hx284_1 := cB HB hx284_1
       replace hx284_2 := cB HB hx284_2
       replace hx284_3 := cB HB hx284_3
       replace hx284_4 := cB HB hx284_4
       replace hx284_5 := cB HB hx284_5
       have HR284_3 := Aside0.mk hi284_3
       have HC284_3 := Aside0.mk hl284_3
       clear hi284_3 hl284_3
       have HR284_4 := Aside0.mk hi284_4
       have HC284_4 := Aside0.mk hl284_4
       clear hi284_4 hl284_4
       have HR284_5 := Aside0.mk hi284_5
       have HC284_5 := Aside0.mk hl284_5
       clear hi284_5 hl284_5
       have p285 : (0 ≤ (x5_1 : Int)) = True := oT
       have q285 : (x5_1 < (l0.length : Int)) = True := oT
       obtain ⟨ad285, A285_3, c285_3, A285_4, c285_4, A285_5, c285_5, e285, hx285_0, hx285_1, hx285_2, hx285_3, hx285_4, hx285_5, hl285_3, hi285_3, hl285_4, hi285_4, hl285_5, hi285_5⟩ := at_T45 HR0.out x5_1 oa oa
       obtain rfl : ad284 = ad285 := (by injection e285)
       replace hx285_0 := cB HB hx285_0
       replace hx285_1 := cB HB hx285_1
       replace hx285_2 := cB HB hx285_2
       replace hx285_3 := cB HB hx285_3
       replace hx285_4 := cB HB hx285_4
       replace hx285_5 := cB HB hx285_5
       have HR285_3 := Aside0.mk hi285_3
       have HC285_3 := Aside0.mk hl285_3
       clear hi285_3 hl285_3
       have HR285_4 := Aside0.mk hi285_4
       have HC285_4 := Aside0.mk hl285_4
       clear hi285_4 hl285_4
       have HR285_5 := Aside0.mk hi285_5
       have HC285_5 := Aside0.mk hl285_5
       clear hi285_5 hl285_5
       have ea_ := Option.some.inj (hx284_3.symm.trans hx285_3)
       injection ea_ with ea_ en_ ec_
       subst ea_
       subst ec_
       clear en_
       have ea_ := Option.some.inj (hx284_4.symm.trans hx285_4)
       injection ea_ with ea_ en_ ec_
       subst ea_
       subst ec_
       clear en_
       have ea_ := Option.some.inj (hx284_5.symm.trans hx285_5)
       injection ea_ with ea_ en_ ec_
       subst ea_
       subst ec_
       clear en_
       go_wp2
       go_ret
       exact ⟨oE, oB⟩
     ·rw [if_neg c5] at H
      have c5b0 : (((rd_T45 l0 x5_1).f0) == x1_1) = false := beq_eq_false_iff_ne.mpr c5
      have c5b1 : (((rd_T45 l0 x5_1).f0) != x1_1) = true := bne_iff_ne.mpr c5
      obtain rfl := Option.some.inj H
      have p284 : (0 ≤ (x5_1 : Int)) = True := oT
      have q284 : (x5_1 < (l0.length : Int)) = True := oT
      obtain ⟨ad284, A284_3, c284_3, A284_4, c284_4, A284_5, c284_5, e284, hx284_0, hx284_1, hx284_2, hx284_3, hx284_4, hx284_5, hl284_3, hi284_3, hl284_4, hi284_4, hl284_5, hi284_5⟩ := at_T45 HR0.out x5_1 oa oa
      cases e284
      replace hx284_0 := cB HB hx284_0
      replace hx284_1 := cB HB hx284_1
      replace hx284_2 := cB HB hx284_2
      replace hx284_3 := cB HB hx284_3
      replace hx284_4 := cB HB hx284_4
      replace hx284_5 := cB HB hx284_5
      have HR284_3 := Aside0.mk hi284_3
      have HC284_3 := Aside0.mk hl284_3
      clear hi284_3 hl284_3
      have HR284_4 := Aside0.mk hi284_4
      have HC284_4 := Aside0.mk hl284_4
      clear hi284_4 hl284_4
      have HR284_5 := Aside0.mk hi284_5
      have HC284_5 := Aside0.mk hl284_5
      clear hi284_5 hl284_5
      go_wp2
      go_ret
      exact ⟨oE, oB⟩
    ·cases H
   ·obtain rfl := Option.some.inj H
    go_wp2
    go_ret
    exact ⟨oE, oB⟩

/-! ### laws_heldTab: function 27 -/
def laws_heldTab.f (k : Nat) (l0_0 : List (S45)) (a0_1 : Int) (a1 : Int) : Option (Int) := (laws_heldInodeS.f k l0_0 a1).bind fun t294 => (if t294 < 0 then (some (-1)) else (some t294))
set_option maxHeartbeats 8000000 in
set_option maxRecDepth 100000 in
theorem laws_heldTab.calls (k : Nat) (A0_0 : Option Addr) (c0_0 : Nat) (l0_0 : List (S45)) (a0_1 : Int) (a1 : Int) (r : Int) (w : World) (hr0_0 : Kd.C k45 w A0_0 l0_0.length l0_0) (hc0_0 : l0_0.length ≤ c0_0) (h : laws_heldTab.f k l0_0 a0_1 a1 = some r) :
  Calls Try.prog 27 #[.agg #[.slice A0_0 l0_0.length c0_0, .int .i64 a0_1], .int .i64 a1] w fun e w' => e = .returned (.int .i64 r) ∧ Below w.heap.size w w' := by
 have hu30 := Try.underlying30
 have HR0_0 := Aside0.mk hr0_0
 have HC0_0 := Aside0.mk hc0_0
 clear hr0_0 hc0_0
 have HB := Aside0.mk (Below.refl w.heap.size w)
 unfold laws_heldTab.f at h
 have H := h
 clear h
 replace H := bA H
 obtain ⟨t294, A3, H⟩ := H
 try dsimp only at H
 replace H := itD H
 rcases H with ⟨c4b0, H⟩ | ⟨c4b0, H⟩
 ·obtain rfl := Option.some.inj H
  go_enter Try.func27, Try.ntmps27
  go_wp2_with (first | ((with_reducible refine gate_dst (N := 2) rfl ?_); refine bx_ 2 #[.slice A0_0 l0_0.length c0_0, .int .i64 a0_1] 30 ?_; intro gb293 hg w5 hbox hb; have BK293 := Aside0.mk (hbox); have GW293 := gs_ hg; have GE293 := gs_ hg; replace HB := Aside0.mk (below_step oB hb); clear hb hbox hg; obtain ⟨⟨_, _⟩, _, _⟩ := z2 BK293) | ((with_reducible refine gate_callee (f := 72) rfl ?_); refine gl_ 8 Try.func72 (laws_heldInodeS.calls k _ _ l0_0 a1 t294 _ (kC HR0_0) HC0_0.out A3.out) ?_; rintro e w7 ⟨rfl, hb⟩; refine ⟨_, rfl, ?_⟩; replace BK293 := kb_ BK293 hb; replace HB := Aside0.mk (below_step oB hb)))
  go_ret
  exact ⟨oE, oB⟩
 ·obtain rfl := Option.some.inj H
  go_enter Try.func27, Try.ntmps27
  go_wp2_with (first | ((with_reducible refine gate_dst (N := 2) rfl ?_); refine bx_ 2 #[.slice A0_0 l0_0.length c0_0, .int .i64 a0_1] 30 ?_; intro gb293 hg w8 hbox hb; have BK293 := Aside0.mk (hbox); have GW293 := gs_ hg; have GE293 := gs_ hg; replace HB := Aside0.mk (below_step oB hb); clear hb hbox hg; obtain ⟨⟨_, _⟩, _, _⟩ := z2 BK293) | ((with_reducible refine gate_callee (f := 72) rfl ?_); refine gl_ 8 Try.func72 (laws_heldInodeS.calls k _ _ l0_0 a1 t294 _ (kC HR0_0) HC0_0.out A3.out) ?_; rintro e w10 ⟨rfl, hb⟩; refine ⟨_, rfl, ?_⟩; replace BK293 := kb_ BK293 hb; replace HB := Aside0.mk (below_step oB hb)))
  go_ret
  exact ⟨oE, oB⟩

theorem laws_heldTab.calls' (k : Nat) (A0_0 : Option Addr) (c0_0 n : Nat) (l0_0 : List S45) (a0_1 a1 r : Int) (w : World) (hn : l0_0.length = n) (hr0_0 : Kd.C k45 w A0_0 l0_0.length l0_0) (hc0_0 : l0_0.length ≤ c0_0) (h : laws_heldTab.f k l0_0 a0_1 a1 = some r) :
  Calls Try.prog 27 #[.agg #[.slice A0_0 n c0_0, .int .i64 a0_1], .int .i64 a1] w fun e w' => e = .returned (.int .i64 r) ∧ Below w.heap.size w w' := by
 subst hn
 exact laws_heldTab.calls k A0_0 c0_0 l0_0 a0_1 a1 r w hr0_0 hc0_0 h
/-! ### laws_FnExactTabNew: function 4 -/
abbrev tabL : List S45 := [⟨1, 2, 0, [], [], []⟩]
def laws_FnExactTabNew.f (k : Nat) : Option Bool := (laws_eqTab.f k tabL 2 tabL 2).bind fun e1 => (laws_markInodeS.f k tabL 1).bind fun mk => (laws_heldTab.f k mk.2 2 1).bind fun q => if e1 = true ∧ ¬ q < 0 ∧ q = mk.1 ∧ mk.2.length = 1 then some true else none
set_option maxHeartbeats 2000000 in
set_option maxRecDepth 100000 in
theorem laws_FnExactTabNew.calls (k : Nat) (r : Bool) (w : World) (h : laws_FnExactTabNew.f k = some r) :
  Calls Try.prog 4 #[] w fun e w' => e = .returned (.bool r) ∧ Below w.heap.size w w' := by
 unfold laws_FnExactTabNew.f at h
 replace h := bA h
 obtain ⟨e1, H1, h⟩ := h
 replace h := bA h
 obtain ⟨⟨m1, m2⟩, H2, h⟩ := h
 replace h := bA h
 obtain ⟨q, H3, h⟩ := h
 split at h
 case isFalse => cases h
 case isTrue hh =>
 obtain ⟨rfl, hq, rfl, hlen⟩ := hh
 obtain rfl := Option.some.inj h
 clear h
 have cq : decide (q < 0) = false := decide_eq_false hq
 clear hq
 have HL := Aside0.mk hlen
 clear hlen
 have HB := Aside0.mk (Below.refl w.heap.size w)
 go_enter Try.func4, Try.ntmps4
 go_wp2_with fail
 refine (spec_TabNew.calls tabL 2 _ rfl).mono ?_
 rintro e w1 ⟨v1, rfl, s1, hb⟩
 obtain ⟨A1, c1, rfl⟩ := Kd.S_slice s1
 have S1 := siv s1
 have n1 : w.heap.size ≤ w1.heap.size := by have := hb.size; simpa using this
 replace HB := Aside0.mk (below_step oB hb)
 clear s1 hb
 go_wp2_with fail
 refine (impl_TabNew.calls tabL 2 _ rfl).mono ?_
 rintro e w2 ⟨v2, rfl, s2, hb⟩
 obtain ⟨A2, c2, rfl⟩ := Kd.S_slice s2
 have S2 := siv s2
 have n2 : w1.heap.size + 1 ≤ w2.heap.size := by have := hb.size; simpa using this
 have K1 := bnew hb
 replace hb := bold hb
 replace S1 := sb S1 hb
 replace HB := Aside0.mk (below_step oB hb)
 clear s2 hb
 have z1_ := z2 K1
 have y1_ := zz2 K1
 go_wp2_with fail
 refine (laws_eqTab.calls k _ _ tabL 2 _ _ tabL 2 true _ (rS S2) (rl S2) (rS S1) (rl S1) H1.out).mono ?_
 rintro e w3 ⟨rfl, hb⟩
 have n3 : w2.heap.size + 1 ≤ w3.heap.size := by have := hb.size; simpa using this
 have K2 := bnew hb
 replace hb := bold hb
 replace K1 := bstep K1 hb
 replace S1 := sb S1 hb
 replace S2 := sb S2 hb
 replace HB := Aside0.mk (below_step oB hb)
 clear hb
 replace z1_ := z2 K1
 replace y1_ := zz2 K1
 have z2_ := z2 K2
 have y2_ := zz2 K2
 go_wp2_with fail
 refine (laws_markTab.calls k _ _ tabL 2 1 q m2 w _ HB.out (Kd.S_lower S2.out (by simp only [World.size_alloc]; omega)) H2.out).mono ?_
 rintro e w4 ⟨rfl, s2, hb, hk⟩
 have n4 : w3.heap.size ≤ w4.heap.size := hk.1
 replace S2 := Aside0.mk s2
 replace K1 := bkept K1 hk (fun h => by simp only [World.size_alloc] at h; omega)
 replace K2 := bkept K2 hk (fun h => by simp only [World.size_alloc] at h; omega)
 replace S1 := sk S1 hk (fun q h h' => by simp only [World.size_alloc] at h'; omega)
 replace HB := Aside0.mk hb
 clear hb hk s2
 replace z1_ := z2 K1
 replace y1_ := zz2 K1
 replace z2_ := z2 K2
 replace y2_ := zz2 K2
 go_wp2_with fail
 refine (laws_heldTab.calls' k _ _ _ m2 2 1 q _ HL.out (rS S2) (rl S2) H3.out).mono ?_
 rintro e w5 ⟨rfl, hb⟩
 replace K1 := bstep K1 hb
 replace K2 := bstep K2 hb
 replace S1 := sb S1 hb
 replace S2 := sb S2 hb
 replace HB := Aside0.mk (below_step oB hb)
 clear hb
 replace z1_ := z2 K1
 replace y1_ := zz2 K1
 replace z2_ := z2 K2
 replace y2_ := zz2 K2
 go_wp2_with fail
 refine (impl_TabNew.calls tabL 2 _ rfl).mono ?_
 rintro e w6 ⟨v3, rfl, s3, hb⟩
 obtain ⟨A3, c3, rfl⟩ := Kd.S_slice s3
 have S3 := siv s3
 replace K1 := bstep K1 hb
 replace K2 := bstep K2 hb
 replace S1 := sb S1 hb
 replace S2 := sb S2 hb
 replace HB := Aside0.mk (below_step oB hb)
 clear hb s3
 replace z1_ := z2 K1
 replace y1_ := zz2 K1
 replace z2_ := z2 K2
 replace y2_ := zz2 K2
 go_wp2_with fail
 refine (laws_eqTab.calls k _ _ tabL 2 _ _ tabL 2 true _ (rS S3) (rl S3) (rS S1) (rl S1) H1.out).mono ?_
 rintro e w7 ⟨rfl, hb⟩
 replace hb := bold hb
 replace K2 := bstep K2 hb
 replace S2 := sb S2 hb
 replace HB := Aside0.mk (below_step oB hb)
 clear hb
 replace z2_ := z2 K2
 replace y2_ := zz2 K2
 go_wp2_with fail
 refine (laws_heldTab.calls' k _ _ _ m2 2 1 q _ HL.out (rS S2) (rl S2) H3.out).mono ?_
 rintro e w8 ⟨rfl, hb⟩
 replace HB := Aside0.mk (below_step oB hb)
 clear hb
 go_wp2_with fail
 go_ret
 exact ⟨rfl, oB⟩
/-! ### laws_markInode: function 48 -/
def laws_markInode.f (k : Nat) (a0_0 : Int) (a0_1 : Int) (a0_2 : Int) (l0_3 : List Int) (l0_4 : List (S83)) (l0_5 : List (S85)) (a1 : Int) : Option (Int × List Int × (List (S83)) × (List (S85))) := (laws_markByteS.f k l0_3 a1).bind fun bt296 => ((laws_markEntS.f k l0_4 bt296.1).bind fun bt298 => ((laws_markAttrS.f k l0_5 bt298.1).bind fun bt300 => (some (bt300.1, bt296.2, bt298.2, bt300.2))))
set_option maxHeartbeats 8000000 in
set_option maxRecDepth 100000 in
theorem laws_markInode.calls (k : Nat) (a0_0 : Int) (a0_1 : Int) (a0_2 : Int) (P0_3_ : Nat → Prop) (u9000_ : Value) (l0_3 : List Int) (P0_4_ : Nat → Prop) (u9001_ : Value) (l0_4 : List (S83)) (P0_5_ : Nat → Prop) (u9002_ : Value) (l0_5 : List (S85)) (a1 : Int) (r1 : Int) (r2 : List Int) (r3 : List (S83)) (r4 : List (S85)) (w0 w : World) (hB : Below w0.heap.size w0 w) (ho0_3 : Kd.R (Kd.int .u8) 5 w w0.heap.size P0_3_ u9000_ l0_3) (ho0_4 : Kd.R k83 83 w w0.heap.size P0_4_ u9001_ l0_4) (ho0_5 : Kd.R k85 85 w w0.heap.size P0_5_ u9002_ l0_5) (h : laws_markInode.f k a0_0 a0_1 a0_2 l0_3 l0_4 l0_5 a1 = some (r1, r2, r3, r4)) :
  Calls Try.prog 48 #[.agg #[.int .i64 a0_0, .int .i64 a0_1, .int .i64 a0_2, u9000_, u9001_, u9002_], .int .i64 a1] w fun e w' => e = .returned (.int .i64 r1) ∧ Kd.R (Kd.int .u8) 5 w' w0.heap.size (fun k_ => ((P0_3_ k_ ∨ P0_4_ k_ ∨ P0_5_ k_) ∨ w.heap.size ≤ k_)) u9000_ r2 ∧ Kd.R k83 83 w' w0.heap.size (fun k_ => ((P0_3_ k_ ∨ P0_4_ k_ ∨ P0_5_ k_) ∨ w.heap.size ≤ k_)) u9001_ r3 ∧ Kd.R k85 85 w' w0.heap.size (fun k_ => ((P0_3_ k_ ∨ P0_4_ k_ ∨ P0_5_ k_) ∨ w.heap.size ≤ k_)) u9002_ r4 ∧ Below w0.heap.size w0 w' ∧ Kept w w' (fun k_ => P0_3_ k_ ∨ P0_4_ k_ ∨ P0_5_ k_) := by
 have hu45 := Try.underlying45
 have HO0_3 := Aside0.mk (show Kd.R (Kd.int .u8) 5 w w0.heap.size (fun k_ => ((P0_3_ k_ ∨ P0_4_ k_ ∨ P0_5_ k_) ∨ w.heap.size ≤ k_)) u9000_ l0_3 from Kd.R_mono ho0_3 (fun k_ hk => (.inl (.inl hk))))
 have HO0_4 := Aside0.mk (show Kd.R k83 83 w w0.heap.size (fun k_ => ((P0_3_ k_ ∨ P0_4_ k_ ∨ P0_5_ k_) ∨ w.heap.size ≤ k_)) u9001_ l0_4 from Kd.R_mono ho0_4 (fun k_ hk => (.inl (.inr (.inl hk)))))
 have HO0_5 := Aside0.mk (show Kd.R k85 85 w w0.heap.size (fun k_ => ((P0_3_ k_ ∨ P0_4_ k_ ∨ P0_5_ k_) ∨ w.heap.size ≤ k_)) u9002_ l0_5 from Kd.R_mono ho0_5 (fun k_ hk => (.inl (.inr (.inr hk)))))
 have HK := Aside0.mk (Kept.refl w (fun k_ => P0_3_ k_ ∨ P0_4_ k_ ∨ P0_5_ k_))
 have HW0 := Aside0.mk hB.size
 have HB := Aside0.mk hB
 clear hB
 unfold laws_markInode.f at h
 have H := h
 clear h
 replace H := bA H
 obtain ⟨⟨t296, t297⟩, A3, H⟩ := H
 try dsimp only at H
 replace H := bA H
 obtain ⟨⟨t298, t299⟩, A4, H⟩ := H
 try dsimp only at H
 replace H := bA H
 obtain ⟨⟨t300, t301⟩, A5, H⟩ := H
 try dsimp only at H
 simp only [Option.some.injEq, Prod.mk.injEq] at H
 obtain ⟨rfl, rfl, rfl, rfl⟩ := H
 obtain ⟨Ao6, co6, eo6⟩ := Kd.R_slice HO0_3.out
 subst eo6
 obtain ⟨Ao7, co7, eo7⟩ := Kd.R_slice HO0_4.out
 subst eo7
 obtain ⟨Ao8, co8, eo8⟩ := Kd.R_slice HO0_5.out
 subst eo8
 go_enter Try.func48, Try.ntmps48
 go_wp2_with (first | ((with_reducible refine gate_dst (N := 2) rfl ?_); refine bx_ 2 #[.int .i64 a0_0, .int .i64 a0_1, .int .i64 a0_2, .slice Ao6 l0_3.length co6, .slice Ao7 l0_4.length co7, .slice Ao8 l0_5.length co8] 45 ?_; intro gb295 hg w9 hbox hb; have BK295 := Aside0.mk (hbox); have GW295 := Aside0.mk ((by rw [hg]; exact (by first | exact HK.out.1 | exact (show Kept w _ (fun k_ => P0_3_ k_ ∨ P0_4_ k_ ∨ P0_5_ k_) from oK).1) : w.heap.size ≤ gb295)); have GE295 := Aside0.mk ((by rw [hg]; exact (below_size oB) : w0.heap.size ≤ gb295)); replace HO0_3 := kr_ HO0_3 hb; replace HO0_4 := kr_ HO0_4 hb; replace HO0_5 := kr_ HO0_5 hb; replace HK := Aside0.mk (Kept.below (S := (fun k_ => P0_3_ k_ ∨ P0_4_ k_ ∨ P0_5_ k_)) oK hb); replace HB := Aside0.mk (below_step oB hb); clear hb hbox hg; obtain ⟨⟨_, _, _, _, _, _⟩, _, _, _, _, _, _⟩ := z6 BK295) | ((with_reducible refine gate_callee (f := 49) rfl ?_); refine gl_ 8 Try.func49 (laws_markByteS.calls k (fun k_ => some k_ = (.slice Ao6 l0_3.length co6 : Value).ownBlock) (.slice Ao6 l0_3.length co6) l0_3 a1 t296 t297 w0 _ ?side1 ?side2 A3.out) ?_; (case side1 => repeat (first | (with_reducible first | exact HB.out | apply below_alloc | apply pw_below_drewN | apply below_drew1 | refine below_set ?_ GE295.out) | exact HB.out)); (case side2 => exact Kd.R_tight rfl HO0_3.out); rintro e w11 ⟨rfl, hy0, hb, hkp⟩; refine ⟨_, rfl, ?_⟩; replace HO0_4 := Aside0.mk (Kd.R_mono (ok' := fun k_ => ((P0_3_ k_ ∨ P0_4_ k_ ∨ P0_5_ k_) ∨ w.heap.size ≤ k_)) (Kd.R_keptB ((Kd.R_apart' HO0_4.out (Kd.R_typed HO0_3.out) (by decide))) hkp (fun k_ hk_ hs_ => (hk_.2) hs_)) (fun k_ hk_ => hk_.1.1)); replace HO0_5 := Aside0.mk (Kd.R_mono (ok' := fun k_ => ((P0_3_ k_ ∨ P0_4_ k_ ∨ P0_5_ k_) ∨ w.heap.size ≤ k_)) (Kd.R_keptB ((Kd.R_apart' HO0_5.out (Kd.R_typed HO0_3.out) (by decide))) hkp (fun k_ hk_ hs_ => (hk_.2) hs_)) (fun k_ hk_ => hk_.1.1)); replace BK295 := Aside0.mk (blk_kept (oF BK295) hkp (fun hs_ => (fun e_ => (Kd.R_ne HO0_3.out BK295.out (by decide)) e_) hs_)); replace HK := Aside0.mk (Kept.then_ (S := (fun k_ => P0_3_ k_ ∨ P0_4_ k_ ∨ P0_5_ k_)) oK hkp (fun k_ hs_ => (fun e_ => (HO0_3.out.1 k_ e_.symm)) hs_)); replace HO0_3 := Aside0.mk (Kd.R_reok rfl hy0 (fun k_ e_ => HO0_3.out.1 k_ e_)); replace HB := Aside0.mk (hb); (try clear hkp); (try clear hy0); obtain ⟨⟨_, _, _, _, _, _⟩, _, _, _, _, _, _⟩ := z6 BK295) | ((with_reducible refine gate_callee (f := 99) rfl ?_); refine gl_ 12 Try.func99 (laws_markEntS.calls k (fun k_ => some k_ = (.slice Ao7 l0_4.length co7 : Value).ownBlock) (.slice Ao7 l0_4.length co7) l0_4 t296 t298 t299 w0 _ ?side1 ?side2 A4.out) ?_; (case side1 => repeat (first | (with_reducible first | exact HB.out | apply below_alloc | apply pw_below_drewN | apply below_drew1 | refine below_set ?_ GE295.out) | exact HB.out)); (case side2 => exact Kd.R_tight rfl HO0_4.out); rintro e w13 ⟨rfl, hy0, hb, hkp⟩; refine ⟨_, rfl, ?_⟩; replace HO0_3 := Aside0.mk (Kd.R_mono (ok' := fun k_ => ((P0_3_ k_ ∨ P0_4_ k_ ∨ P0_5_ k_) ∨ w.heap.size ≤ k_)) (Kd.R_keptB ((Kd.R_apart' HO0_3.out (Kd.R_typed HO0_4.out) (by decide))) hkp (fun k_ hk_ hs_ => (hk_.2) hs_)) (fun k_ hk_ => hk_.1.1)); replace HO0_5 := Aside0.mk (Kd.R_mono (ok' := fun k_ => ((P0_3_ k_ ∨ P0_4_ k_ ∨ P0_5_ k_) ∨ w.heap.size ≤ k_)) (Kd.R_keptB ((Kd.R_apart' HO0_5.out (Kd.R_typed HO0_4.out) (by decide))) hkp (fun k_ hk_ hs_ => (hk_.2) hs_)) (fun k_ hk_ => hk_.1.1)); replace BK295 := Aside0.mk (blk_kept (oF BK295) hkp (fun hs_ => (fun e_ => (Kd.R_ne HO0_4.out BK295.out (by decide)) e_) hs_)); replace HK := Aside0.mk (Kept.then_ (S := (fun k_ => P0_3_ k_ ∨ P0_4_ k_ ∨ P0_5_ k_)) oK hkp (fun k_ hs_ => (fun e_ => (HO0_4.out.1 k_ e_.symm)) hs_)); replace HO0_4 := Aside0.mk (Kd.R_reok rfl hy0 (fun k_ e_ => HO0_4.out.1 k_ e_)); replace HB := Aside0.mk (hb); (try clear hkp); (try clear hy0); obtain ⟨⟨_, _, _, _, _, _⟩, _, _, _, _, _, _⟩ := z6 BK295) | ((with_reducible refine gate_callee (f := 100) rfl ?_); refine gl_ 16 Try.func100 (laws_markAttrS.calls k (fun k_ => some k_ = (.slice Ao8 l0_5.length co8 : Value).ownBlock) (.slice Ao8 l0_5.length co8) l0_5 t298 t300 t301 w0 _ ?side1 ?side2 A5.out) ?_; (case side1 => repeat (first | (with_reducible first | exact HB.out | apply below_alloc | apply pw_below_drewN | apply below_drew1 | refine below_set ?_ GE295.out) | exact HB.out)); (case side2 => exact Kd.R_tight rfl HO0_5.out); rintro e w15 ⟨rfl, hy0, hb, hkp⟩; refine ⟨_, rfl, ?_⟩; replace HO0_3 := Aside0.mk (Kd.R_mono (ok' := fun k_ => ((P0_3_ k_ ∨ P0_4_ k_ ∨ P0_5_ k_) ∨ w.heap.size ≤ k_)) (Kd.R_keptB ((Kd.R_apart' HO0_3.out (Kd.R_typed HO0_5.out) (by decide))) hkp (fun k_ hk_ hs_ => (hk_.2) hs_)) (fun k_ hk_ => hk_.1.1)); replace HO0_4 := Aside0.mk (Kd.R_mono (ok' := fun k_ => ((P0_3_ k_ ∨ P0_4_ k_ ∨ P0_5_ k_) ∨ w.heap.size ≤ k_)) (Kd.R_keptB ((Kd.R_apart' HO0_4.out (Kd.R_typed HO0_5.out) (by decide))) hkp (fun k_ hk_ hs_ => (hk_.2) hs_)) (fun k_ hk_ => hk_.1.1)); replace BK295 := Aside0.mk (blk_kept (oF BK295) hkp (fun hs_ => (fun e_ => (Kd.R_ne HO0_5.out BK295.out (by decide)) e_) hs_)); replace HK := Aside0.mk (Kept.then_ (S := (fun k_ => P0_3_ k_ ∨ P0_4_ k_ ∨ P0_5_ k_)) oK hkp (fun k_ hs_ => (fun e_ => (HO0_5.out.1 k_ e_.symm)) hs_)); replace HO0_5 := Aside0.mk (Kd.R_reok rfl hy0 (fun k_ e_ => HO0_5.out.1 k_ e_)); replace HB := Aside0.mk (hb); (try clear hkp); (try clear hy0)))
 go_ret
 exact ⟨oE, oR HO0_3, oR HO0_4, oR HO0_5, oB, oK⟩

/-! ### spec_l4At: function 101 -/
def spec_l4At.l0 : Nat → Int → Int → List (S45) → Int → Option (Int)
 | 0, _, _, _, _ => none
 | k + 1, x1, x5, x303000, x303001 => if x5 < (x303000.length : Int) then (if 0 ≤ x5 then (if ((rd_T45 x303000 x5).f0) = x1 then (some x5) else (spec_l4At.l0 k x1 (wrap64 (x5 + 1)) x303000 x303001)) else (none)) else (some (-1))
def spec_l4At.f (k : Nat) (l0_0 : List (S45)) (a0_1 : Int) (a1 : Int) : Option (Int) := spec_l4At.l0 k a1 0 l0_0 a0_1
set_option maxHeartbeats 8000000 in
set_option maxRecDepth 100000 in
theorem spec_l4At.calls (k : Nat) (A0_0 : Option Addr) (c0_0 : Nat) (l0_0 : List (S45)) (a0_1 : Int) (a1 : Int) (r : Int) (w : World) (hr0_0 : Kd.C k45 w A0_0 l0_0.length l0_0) (hc0_0 : l0_0.length ≤ c0_0) (h : spec_l4At.f k l0_0 a0_1 a1 = some r) :
  Calls Try.prog 101 #[.agg #[.slice A0_0 l0_0.length c0_0, .int .i64 a0_1], .int .i64 a1] w fun e w' => e = .returned (.int .i64 r) ∧ Below w.heap.size w w' := by
 have hu30 := Try.underlying30
 have HR0_0 := Aside0.mk hr0_0
 have HC0_0 := Aside0.mk hc0_0
 clear hr0_0 hc0_0
 have HB := Aside0.mk (Below.refl w.heap.size w)
 unfold spec_l4At.f at h
 have H := h
 clear h
 have H' := Aside0.mk H
 clear H
 go_enter Try.func101, Try.ntmps101
 go_wp2_with (first | ((with_reducible refine gate_dst (N := 2) rfl ?_); refine bx_ 2 #[.slice A0_0 l0_0.length c0_0, .int .i64 a0_1] 30 ?_; intro gb302 hg w3 hbox hb; have BK302 := Aside0.mk (hbox); have GW302 := gs_ hg; have GE302 := gs_ hg; replace HB := Aside0.mk (below_step oB hb); clear hb hbox hg))
 go_loopg [5] k (fun kq v5 w' => ∃ (x5_1 : Int), v5 = .int .i64 x5_1 ∧ Aside0 (spec_l4At.l0 kq a1 x5_1 l0_0 a0_1 = some r) ∧ Aside0 (kq ≤ k) ∧ Aside0 (w'.heap[gb302]? = some (.cells #[(.slice A0_0 l0_0.length c0_0), .int .i64 a0_1] 30 (0, 0))) ∧ Aside0 (Below w.heap.size w w'))
 case atStart => exact ⟨(0), oS, H', ⟨Nat.le_refl _⟩, ⟨oF BK302⟩, ⟨oB⟩⟩
 case round =>
  clear H'
  obtain ⟨x5_1, rfl, HA, HK1, BK302, HB⟩ := hrel
  cases gk with
  | zero => exact absurd HA.out (by simp [spec_l4At.l0])
  | succ k1 =>
   have H := HA.out
   clear HA
   simp only [spec_l4At.l0] at H
   replace H := itD H
   rcases H with ⟨c4b0, H⟩ | ⟨c4b0, H⟩
   ·replace H := itD H
    rcases H with ⟨c5b0, H⟩ | ⟨c5b0, H⟩
    ·by_cases c6 : ((rd_T45 l0_0 x5_1).f0) = a1
     ·rw [if_pos c6] at H
      have c6b0 : (((rd_T45 l0_0 x5_1).f0) == a1) = true := beq_iff_eq.mpr c6
      have c6b1 : (((rd_T45 l0_0 x5_1).f0) != a1) = false := bne_eq_false_iff_eq.mpr c6
      clear c6
      obtain rfl := Option.some.inj H
      obtain ⟨⟨_, _⟩, _, _⟩ := z2 BK302
      have p303 : (0 ≤ (x5_1 : Int)) = True := oT
      have q303 : (x5_1 < (l0_0.length : Int)) = True := oT
      obtain ⟨ad303, A303_3, c303_3, A303_4, c303_4, A303_5, c303_5, e303, hx303_0, hx303_1, hx303_2, hx303_3, hx303_4, hx303_5, hl303_3, hi303_3, hl303_4, hi303_4, hl303_5, hi303_5⟩ := at_T45 HR0_0.out x5_1 oa oa
      cases e303
      replace hx303_0 := cB HB hx303_0
      replace hx303_1 := cB HB hx303_1
      replace hx303_2 := cB HB hx303_2
      replace hx303_3 := cB HB hx303_3
      replace hx303_4 := cB HB hx303_4
      replace hx303_5 := cB HB hx303_5
      have HR303_3 := Aside0.mk hi303_3
      have HC303_3 := Aside0.mk hl303_3
      clear hi303_3 hl303_3
      have HR303_4 := Aside0.mk hi303_4
      have HC303_4 := Aside0.mk hl303_4
      clear hi303_4 hl303_4
      have HR303_5 := Aside0.mk hi303_5
      have HC303_5 := Aside0.mk hl303_5
      clear hi303_5 hl303_5
      go_wp2
      go_ret
      exact ⟨oE, oB⟩
     ·rw [if_neg c6] at H
      have c6b0 : (((rd_T45 l0_0 x5_1).f0) == a1) = false := beq_eq_false_iff_ne.mpr c6
      have c6b1 : (((rd_T45 l0_0 x5_1).f0) != a1) = true := bne_iff_ne.mpr c6
      have H' := Aside0.mk H
      clear H
      obtain ⟨⟨_, _⟩, _, _⟩ := z2 BK302
      have p303 : (0 ≤ (x5_1 : Int)) = True := oT
      have q303 : (x5_1 < (l0_0.length : Int)) = True := oT
      obtain ⟨ad303, A303_3, c303_3, A303_4, c303_4, A303_5, c303_5, e303, hx303_0, hx303_1, hx303_2, hx303_3, hx303_4, hx303_5, hl303_3, hi303_3, hl303_4, hi303_4, hl303_5, hi303_5⟩ := at_T45 HR0_0.out x5_1 oa oa
      cases e303
      replace hx303_0 := cB HB hx303_0
      replace hx303_1 := cB HB hx303_1
      replace hx303_2 := cB HB hx303_2
      replace hx303_3 := cB HB hx303_3
      replace hx303_4 := cB HB hx303_4
      replace hx303_5 := cB HB hx303_5
      have HR303_3 := Aside0.mk hi303_3
      have HC303_3 := Aside0.mk hl303_3
      clear hi303_3 hl303_3
      have HR303_4 := Aside0.mk hi303_4
      have HC303_4 := Aside0.mk hl303_4
      clear hi303_4 hl303_4
      have HR303_5 := Aside0.mk hi303_5
      have HC303_5 := Aside0.mk hl303_5
      clear hi303_5 hl303_5
      go_wp2
      go_roundg k1
      case measure => have := HK1.out; omega
      case rel => exact ⟨(wrap64 (x5_1 + 1)), oS, H', ⟨by have := HK1.out; omega⟩, ⟨oF BK302⟩, ⟨oB⟩⟩
    ·cases H
   ·obtain rfl := Option.some.inj H
    obtain ⟨⟨_, _⟩, _, _⟩ := z2 BK302
    go_wp2
    go_ret
    exact ⟨oE, oB⟩

/-! ### spec_l3Copy: function 102 -/
def spec_l3Copy.f (a0_0 : Int) (a0_1 : Int) (a0_2 : Int) (l0_3 : List Int) (l0_4 : List (S83)) (l0_5 : List (S85)) : Option (Int × Int × Int × List Int × (List (S83)) × (List (S85))) := (some (([] : List Int) : List Int)).bind fun y307 => (if y307.length + l0_3.length < 140737488355328 then ((some (([] : List (S83)) : List (S83))).bind fun y313 => (if y313.length + l0_4.length < 5864062014805 then ((some (([] : List (S85)) : List (S85))).bind fun y319 => (if y319.length + l0_5.length < 4398046511104 then (some (a0_0, a0_1, a0_2, (y307 ++ l0_3), (y313 ++ l0_4), (y319 ++ l0_5))) else (none))) else (none))) else (none))
set_option maxHeartbeats 8000000 in
set_option maxRecDepth 100000 in
theorem spec_l3Copy.calls (a0_0 : Int) (a0_1 : Int) (a0_2 : Int) (A0_3 : Option Addr) (c0_3 : Nat) (l0_3 : List Int) (A0_4 : Option Addr) (c0_4 : Nat) (l0_4 : List (S83)) (A0_5 : Option Addr) (c0_5 : Nat) (l0_5 : List (S85)) (r1 : Int) (r2 : Int) (r3 : Int) (r4 : List Int) (r5 : List (S83)) (r6 : List (S85)) (w : World) (hr0_3 : Kd.C (Kd.int .u8) w A0_3 l0_3.length l0_3) (hc0_3 : l0_3.length ≤ c0_3) (hr0_4 : Kd.C k83 w A0_4 l0_4.length l0_4) (hc0_4 : l0_4.length ≤ c0_4) (hr0_5 : Kd.C k85 w A0_5 l0_5.length l0_5) (hc0_5 : l0_5.length ≤ c0_5) (h : spec_l3Copy.f a0_0 a0_1 a0_2 l0_3 l0_4 l0_5 = some (r1, r2, r3, r4, r5, r6)) :
  Calls Try.prog 102 #[.agg #[.int .i64 a0_0, .int .i64 a0_1, .int .i64 a0_2, .slice A0_3 l0_3.length c0_3, .slice A0_4 l0_4.length c0_4, .slice A0_5 l0_5.length c0_5]] w fun e w' => ∃ v3_ v4_ v5_ : Value, e = .returned (.agg #[.int .i64 r1, .int .i64 r2, .int .i64 r3, v3_, v4_, v5_]) ∧ Kd.R (Kd.int .u8) 5 w' w.heap.size (fun _ => True) v3_ r4 ∧ Kd.R k83 83 w' w.heap.size (fun _ => True) v4_ r5 ∧ Kd.R k85 85 w' w.heap.size (fun _ => True) v5_ r6 ∧ Below w.heap.size w w' := by
 have hu45 := Try.underlying45
 have HR0_3 := Aside0.mk hr0_3
 have HC0_3 := Aside0.mk hc0_3
 clear hr0_3 hc0_3
 have HR0_4 := Aside0.mk hr0_4
 have HC0_4 := Aside0.mk hc0_4
 clear hr0_4 hc0_4
 have HR0_5 := Aside0.mk hr0_5
 have HC0_5 := Aside0.mk hc0_5
 clear hr0_5 hc0_5
 have HB := Aside0.mk (Below.refl w.heap.size w)
 unfold spec_l3Copy.f at h
 have H := h
 clear h
 obtain ⟨y307, hy307⟩ : ∃ y_ : List Int, y_ = (([] : List Int)) := ⟨_, rfl⟩
 replace H : (if y307.length + l0_3.length < 140737488355328 then ((some (([] : List (S83)) : List (S83))).bind fun y313 => (if y313.length + l0_4.length < 5864062014805 then ((some (([] : List (S85)) : List (S85))).bind fun y319 => (if y319.length + l0_5.length < 4398046511104 then (some (a0_0, a0_1, a0_2, (y307 ++ l0_3), (y313 ++ l0_4), (y319 ++ l0_5))) else (none))) else (none))) else (none)) = some (r1, r2, r3, r4, r5, r6) := by first | (rw [hy307]; with_reducible exact H) | (have H2_ := (Option.bind_some _ _).symm.trans H; rw [hy307]; with_reducible exact H2_) | (have H2_ := (Option.bind_some _ _).symm.trans H; with_reducible exact H2_) | with_reducible exact H | (rw [hy307]; exact H) | exact H
 have Ny307 := Aside0.mk hy307
 clear hy307
 by_cases c2 : y307.length + l0_3.length < 140737488355328
 ·rw [if_pos c2] at H
  have LMc2 := Aside0.mk c2
  clear c2
  obtain ⟨y310, hy310⟩ : ∃ y_ : List Int, y_ = (y307 ++ l0_3) := ⟨_, rfl⟩
  replace H : ((some (([] : List (S83)) : List (S83))).bind fun y313 => (if y313.length + l0_4.length < 5864062014805 then ((some (([] : List (S85)) : List (S85))).bind fun y319 => (if y319.length + l0_5.length < 4398046511104 then (some (a0_0, a0_1, a0_2, y310, (y313 ++ l0_4), (y319 ++ l0_5))) else (none))) else (none))) = some (r1, r2, r3, r4, r5, r6) := by first | (rw [hy310]; with_reducible exact H) | (have H2_ := (Option.bind_some _ _).symm.trans H; rw [hy310]; with_reducible exact H2_) | (have H2_ := (Option.bind_some _ _).symm.trans H; with_reducible exact H2_) | with_reducible exact H | (rw [hy310]; exact H) | exact H
  have Ny310 := Aside0.mk hy310
  clear hy310
  obtain ⟨y313, hy313⟩ : ∃ y_ : List (S83), y_ = (([] : List (S83))) := ⟨_, rfl⟩
  replace H : (if y313.length + l0_4.length < 5864062014805 then ((some (([] : List (S85)) : List (S85))).bind fun y319 => (if y319.length + l0_5.length < 4398046511104 then (some (a0_0, a0_1, a0_2, y310, (y313 ++ l0_4), (y319 ++ l0_5))) else (none))) else (none)) = some (r1, r2, r3, r4, r5, r6) := by first | (rw [hy313]; with_reducible exact H) | (have H2_ := (Option.bind_some _ _).symm.trans H; rw [hy313]; with_reducible exact H2_) | (have H2_ := (Option.bind_some _ _).symm.trans H; with_reducible exact H2_) | with_reducible exact H | (rw [hy313]; exact H) | exact H
  have Ny313 := Aside0.mk hy313
  clear hy313
  by_cases c3 : y313.length + l0_4.length < 5864062014805
  ·rw [if_pos c3] at H
   have LMc3 := Aside0.mk c3
   clear c3
   obtain ⟨y316, hy316⟩ : ∃ y_ : List (S83), y_ = (y313 ++ l0_4) := ⟨_, rfl⟩
   replace H : ((some (([] : List (S85)) : List (S85))).bind fun y319 => (if y319.length + l0_5.length < 4398046511104 then (some (a0_0, a0_1, a0_2, y310, y316, (y319 ++ l0_5))) else (none))) = some (r1, r2, r3, r4, r5, r6) := by first | (rw [hy316]; with_reducible exact H) | (have H2_ := (Option.bind_some _ _).symm.trans H; rw [hy316]; with_reducible exact H2_) | (have H2_ := (Option.bind_some _ _).symm.trans H; with_reducible exact H2_) | with_reducible exact H | (rw [hy316]; exact H) | exact H
   have Ny316 := Aside0.mk hy316
   clear hy316
   obtain ⟨y319, hy319⟩ : ∃ y_ : List (S85), y_ = (([] : List (S85))) := ⟨_, rfl⟩
   replace H : (if y319.length + l0_5.length < 4398046511104 then (some (a0_0, a0_1, a0_2, y310, y316, (y319 ++ l0_5))) else (none)) = some (r1, r2, r3, r4, r5, r6) := by first | (rw [hy319]; with_reducible exact H) | (have H2_ := (Option.bind_some _ _).symm.trans H; rw [hy319]; with_reducible exact H2_) | (have H2_ := (Option.bind_some _ _).symm.trans H; with_reducible exact H2_) | with_reducible exact H | (rw [hy319]; exact H) | exact H
   have Ny319 := Aside0.mk hy319
   clear hy319
   by_cases c4 : y319.length + l0_5.length < 4398046511104
   ·rw [if_pos c4] at H
    have LMc4 := Aside0.mk c4
    clear c4
    obtain ⟨y322, hy322⟩ : ∃ y_ : List (S85), y_ = (y319 ++ l0_5) := ⟨_, rfl⟩
    replace H : (some (a0_0, a0_1, a0_2, y310, y316, y322)) = some (r1, r2, r3, r4, r5, r6) := by first | (rw [hy322]; with_reducible exact H) | (have H2_ := (Option.bind_some _ _).symm.trans H; rw [hy322]; with_reducible exact H2_) | (have H2_ := (Option.bind_some _ _).symm.trans H; with_reducible exact H2_) | with_reducible exact H | (rw [hy322]; exact H) | exact H
    have Ny322 := Aside0.mk hy322
    clear hy322
    simp only [Option.some.injEq, Prod.mk.injEq] at H
    obtain ⟨rfl, rfl, rfl, rfl, rfl, rfl⟩ := H
    go_enter Try.func102, Try.ntmps102
    go_wp2_with (first | ((with_reducible refine gate_dst (N := 1) rfl ?_); refine bx_ 1 #[.int .i64 a0_0, .int .i64 a0_1, .int .i64 a0_2, .slice A0_3 l0_3.length c0_3, .slice A0_4 l0_4.length c0_4, .slice A0_5 l0_5.length c0_5] 45 ?_; intro gb304 hg w5 hbox hb; have BK304 := Aside0.mk (hbox); have GW304 := gs_ hg; have GE304 := gs_ hg; replace HB := Aside0.mk (below_step oB hb); clear hb hbox hg) | ((with_reducible refine gate_dst (N := 2) rfl ?_); refine bx_ 2 #[.int .i64 0, .int .i64 0, .int .i64 0, .slice none 0 0, .slice none 0 0, .slice none 0 0] 45 ?_; intro gb305 hg w6 hbox hb; have BK305 := Aside0.mk (hbox); have GW305 := gs_ hg; have GE305 := gs_ hg; have NB304_305 := nl_ hg BK304; have NB305_304 := nr_ hg BK304; replace BK304 := kb_ BK304 hb; replace HB := Aside0.mk (below_step oB hb); clear hb hbox hg; have hnb7 := NB304_305.out; have hnc7 := NB305_304.out; obtain ⟨⟨_, _, _, _, _, _⟩, _, _, _, _, _, _⟩ := z6 BK304) | ((with_reducible refine gate_dst (N := 3) rfl ?_); refine bx_ 3 #[.int .i64 0, .int .i64 0, .int .i64 0, .slice none 0 0, .slice none 0 0, .slice none 0 0] 45 ?_; intro gb306 hg w9 hbox hb; have BK306 := Aside0.mk (hbox); have GW306 := gs_ hg; have GE306 := gs_ hg; have NB304_306 := nl_ hg BK304; have NB306_304 := nr_ hg BK304; have NB305_306 := nl_ hg BK305; have NB306_305 := nr_ hg BK305; replace BK304 := kb_ BK304 hb; replace BK305 := kb_ BK305 hb; replace HB := Aside0.mk (below_step oB hb); clear hb hbox hg; have hnb10 := NB306_304.out; have hnc10 := NB304_306.out; have hnb11 := NB306_305.out; have hnc11 := NB305_306.out; obtain ⟨⟨_, _, _, _, _, _⟩, _, _, _, _, _, _⟩ := z6 BK306) | ((with_reducible refine gate_dst (N := 5) rfl ?_); refine Kd.R_lit (Kd.int .u8) _ 5 ?hg (N := 5) ?hd (xs := ([] : List Int)) (inner := []) (ok := fun _ => True) (okp := fun _ => True) ?hr ?hp (fun _ hk => hk) trivial (Below.refl _ _) (Nat.le_refl _) (by simp) ?_; (case hd => rfl); (case hg => rfl); (case hr => first | (go_simp; done) | (go_simp; rfl)); (case hp => exact (Reps.none _ _)); intro v308 w13 ho14 hb hg_ hnew_; clear hg_ hnew_; (first | rw [← Ny307.out] at ho14 | (simp only [Int.reduceToNat] at ho14; rw [← Ny307.out] at ho14)); have HO309 := Aside0.mk (Kd.R_lower ho14 (below_size oB)); replace BK304 := Aside0.mk (blk_below (g := gb304) (o := .cells #[.int .i64 a0_0, .int .i64 a0_1, .int .i64 a0_2, .slice A0_3 l0_3.length c0_3, .slice A0_4 l0_4.length c0_4, .slice A0_5 l0_5.length c0_5] 45 (0, 0)) (by (with_reducible repeat (first | refine blk_drewN ?_ _ | refine blk_drew ?_ | refine blk_alloc ?_ _)); refine blk_far ?_ NB304_306.out _; (with_reducible repeat (first | refine blk_drewN ?_ _ | refine blk_drew ?_ | refine blk_alloc ?_ _)); refine blk_far ?_ NB304_306.out _; (with_reducible repeat (first | refine blk_drewN ?_ _ | refine blk_drew ?_ | refine blk_alloc ?_ _)); refine blk_far ?_ NB304_306.out _; (with_reducible repeat (first | refine blk_drewN ?_ _ | refine blk_drew ?_ | refine blk_alloc ?_ _)); refine blk_far ?_ NB304_306.out _; (with_reducible repeat (first | refine blk_drewN ?_ _ | refine blk_drew ?_ | refine blk_alloc ?_ _)); refine blk_far ?_ NB304_306.out _; (with_reducible repeat (first | refine blk_drewN ?_ _ | refine blk_drew ?_ | refine blk_alloc ?_ _)); refine blk_far ?_ NB304_306.out _; (with_reducible repeat (first | refine blk_drewN ?_ _ | refine blk_drew ?_ | refine blk_alloc ?_ _)); exact BK304.out) hb); replace BK305 := Aside0.mk (blk_below (g := gb305) (o := .cells #[.int .i64 0, .int .i64 0, .int .i64 0, .slice none 0 0, .slice none 0 0, .slice none 0 0] 45 (0, 0)) (by (with_reducible repeat (first | refine blk_drewN ?_ _ | refine blk_drew ?_ | refine blk_alloc ?_ _)); refine blk_far ?_ NB305_306.out _; (with_reducible repeat (first | refine blk_drewN ?_ _ | refine blk_drew ?_ | refine blk_alloc ?_ _)); refine blk_far ?_ NB305_306.out _; (with_reducible repeat (first | refine blk_drewN ?_ _ | refine blk_drew ?_ | refine blk_alloc ?_ _)); refine blk_far ?_ NB305_306.out _; (with_reducible repeat (first | refine blk_drewN ?_ _ | refine blk_drew ?_ | refine blk_alloc ?_ _)); refine blk_far ?_ NB305_306.out _; (with_reducible repeat (first | refine blk_drewN ?_ _ | refine blk_drew ?_ | refine blk_alloc ?_ _)); refine blk_far ?_ NB305_306.out _; (with_reducible repeat (first | refine blk_drewN ?_ _ | refine blk_drew ?_ | refine blk_alloc ?_ _)); refine blk_far ?_ NB305_306.out _; (with_reducible repeat (first | refine blk_drewN ?_ _ | refine blk_drew ?_ | refine blk_alloc ?_ _)); exact BK305.out) hb); replace BK306 := Aside0.mk (blk_below (g := gb306) (o := .cells #[.int .i64 a0_0, .int .i64 a0_1, .int .i64 a0_2, .slice A0_3 l0_3.length c0_3, .slice A0_4 l0_4.length c0_4, .slice A0_5 l0_5.length c0_5] 45 (0, 0)) (by (with_reducible repeat (first | refine blk_drewN ?_ _ | refine blk_drew ?_ | refine blk_alloc ?_ _)); refine blk_put (cs := #[.int .i64 a0_0, .int .i64 a0_1, .int .i64 a0_2, .slice A0_3 l0_3.length c0_3, .slice A0_4 l0_4.length c0_4, .slice none 0 0]) ?_ 5 _ rfl; (with_reducible repeat (first | refine blk_drewN ?_ _ | refine blk_drew ?_ | refine blk_alloc ?_ _)); refine blk_put (cs := #[.int .i64 a0_0, .int .i64 a0_1, .int .i64 a0_2, .slice A0_3 l0_3.length c0_3, .slice none 0 0, .slice none 0 0]) ?_ 4 _ rfl; (with_reducible repeat (first | refine blk_drewN ?_ _ | refine blk_drew ?_ | refine blk_alloc ?_ _)); refine blk_put (cs := #[.int .i64 a0_0, .int .i64 a0_1, .int .i64 a0_2, .slice none 0 0, .slice none 0 0, .slice none 0 0]) ?_ 3 _ rfl; (with_reducible repeat (first | refine blk_drewN ?_ _ | refine blk_drew ?_ | refine blk_alloc ?_ _)); refine blk_put (cs := #[.int .i64 a0_0, .int .i64 a0_1, .int .i64 0, .slice none 0 0, .slice none 0 0, .slice none 0 0]) ?_ 2 _ rfl; (with_reducible repeat (first | refine blk_drewN ?_ _ | refine blk_drew ?_ | refine blk_alloc ?_ _)); refine blk_put (cs := #[.int .i64 a0_0, .int .i64 0, .int .i64 0, .slice none 0 0, .slice none 0 0, .slice none 0 0]) ?_ 1 _ rfl; (with_reducible repeat (first | refine blk_drewN ?_ _ | refine blk_drew ?_ | refine blk_alloc ?_ _)); refine blk_put (cs := #[.int .i64 0, .int .i64 0, .int .i64 0, .slice none 0 0, .slice none 0 0, .slice none 0 0]) ?_ 0 _ rfl; (with_reducible repeat (first | refine blk_drewN ?_ _ | refine blk_drew ?_ | refine blk_alloc ?_ _)); exact BK306.out) hb); replace HB := Aside0.mk (below_step oB hb); clear hb ho14; obtain ⟨⟨_, _, _, _, _, _⟩, _, _, _, _, _, _⟩ := z6 BK304) | ((with_reducible refine gate_builtin (b := .append) (xs := #[.tmp 5, .tmp 7]) rfl ?_); at_builtin; refine Kd.R_append_rows (Kd.int .u8) (w0 := w) w.heap.size rfl (.tmp 5) (.tmp 7) 35 5 (.int .u8 0) 1 rfl Try.underlying35 info5 rfl (by decide) (by omega) v308 y307 l0_3 _ _ _ (fun _ => True) (fun _ => False) rfl rfl ?aO ?aR (fun _ _ h => h) (fun _ h => h.elim) ?aF ?aB ?aS ?aL ?_; (case aR => repeat (first | exact (Kd.C_below HR0_3.out HB.out) | (with_reducible refine Kd.C_alloc ?_ _) | (with_reducible refine Kd.C_drewN ?_ _) | (with_reducible refine Kd.C_drew ?_))); (case aB => exact oB); (case aF => exact (fun _ _ => trivial)); (case aO => exact (oR HO309)); (case aS => exact (below_size oB)); (case aL => have := LMc2.out; omega); intro v311 w16 ho hb hg hat; rw [← Ny310.out] at ho; have HO312 := Aside0.mk (ho); replace BK304 := Aside0.mk (blk_grown (g := gb304) (o := .cells #[.int .i64 a0_0, .int .i64 a0_1, .int .i64 a0_2, .slice A0_3 l0_3.length c0_3, .slice A0_4 l0_4.length c0_4, .slice A0_5 l0_5.length c0_5] 45 (0, 0)) (oF BK304) hg (Kd.R_ne HO309.out BK304.out (by decide))); replace BK305 := Aside0.mk (blk_grown (g := gb305) (o := .cells #[.int .i64 0, .int .i64 0, .int .i64 0, .slice none 0 0, .slice none 0 0, .slice none 0 0] 45 (0, 0)) (oF BK305) hg (Kd.R_ne HO309.out BK305.out (by decide))); replace BK306 := Aside0.mk (blk_grown (g := gb306) (o := .cells #[.int .i64 a0_0, .int .i64 a0_1, .int .i64 a0_2, .slice A0_3 l0_3.length c0_3, .slice A0_4 l0_4.length c0_4, .slice A0_5 l0_5.length c0_5] 45 (0, 0)) (oF BK306) hg (Kd.R_ne HO309.out BK306.out (by decide))); replace HB := Aside0.mk (hb); clear HO309; clear ho hb hg hat; obtain ⟨Ao17, co17, eo17⟩ := Kd.R_slice HO312.out; subst eo17; obtain ⟨⟨_, _, _, _, _, _⟩, _, _, _, _, _, _⟩ := z6 BK306) | ((with_reducible refine gate_dst (N := 10) rfl ?_); refine Kd.R_lit k83 _ 83 ?hg (N := 10) ?hd (xs := ([] : List (S83))) (inner := []) (ok := fun _ => True) (okp := fun _ => True) ?hr ?hp (fun _ hk => hk) trivial (Below.refl _ _) (Nat.le_refl _) (by simp) ?_; (case hd => rfl); (case hg => rfl); (case hr => first | (go_simp; done) | (go_simp; rfl)); (case hp => exact (Reps.none _ _)); intro v314 w19 ho20 hb hg_ hnew_; clear hg_ hnew_; (first | rw [← Ny313.out] at ho20 | (simp only [Int.reduceToNat] at ho20; rw [← Ny313.out] at ho20)); have HO315 := Aside0.mk (Kd.R_lower ho20 (below_size oB)); replace HO312 := Aside0.mk (Kd.R_below (by (with_reducible repeat (first | apply Kd.R_alloc | apply Kd.R_drewN | apply Kd.R_drew)); exact (Kd.R_mono (Kd.R_far (p := ⟨gb306, 3, none⟩) (Kd.R_types HO312.out BK306.out (by decide)) (fun _ hk => hk.2) (.slice Ao17 y310.length co17)) (fun _ h_ => h_.1))) hb); replace BK304 := Aside0.mk (blk_below (g := gb304) (o := .cells #[.int .i64 a0_0, .int .i64 a0_1, .int .i64 a0_2, .slice A0_3 l0_3.length c0_3, .slice A0_4 l0_4.length c0_4, .slice A0_5 l0_5.length c0_5] 45 (0, 0)) (by (with_reducible repeat (first | refine blk_drewN ?_ _ | refine blk_drew ?_ | refine blk_alloc ?_ _)); refine blk_far ?_ NB304_306.out _; (with_reducible repeat (first | refine blk_drewN ?_ _ | refine blk_drew ?_ | refine blk_alloc ?_ _)); exact BK304.out) hb); replace BK305 := Aside0.mk (blk_below (g := gb305) (o := .cells #[.int .i64 0, .int .i64 0, .int .i64 0, .slice none 0 0, .slice none 0 0, .slice none 0 0] 45 (0, 0)) (by (with_reducible repeat (first | refine blk_drewN ?_ _ | refine blk_drew ?_ | refine blk_alloc ?_ _)); refine blk_far ?_ NB305_306.out _; (with_reducible repeat (first | refine blk_drewN ?_ _ | refine blk_drew ?_ | refine blk_alloc ?_ _)); exact BK305.out) hb); replace BK306 := Aside0.mk (blk_below (g := gb306) (o := .cells #[.int .i64 a0_0, .int .i64 a0_1, .int .i64 a0_2, .slice Ao17 y310.length co17, .slice A0_4 l0_4.length c0_4, .slice A0_5 l0_5.length c0_5] 45 (0, 0)) (by (with_reducible repeat (first | refine blk_drewN ?_ _ | refine blk_drew ?_ | refine blk_alloc ?_ _)); refine blk_put (cs := #[.int .i64 a0_0, .int .i64 a0_1, .int .i64 a0_2, .slice A0_3 l0_3.length c0_3, .slice A0_4 l0_4.length c0_4, .slice A0_5 l0_5.length c0_5]) ?_ 3 _ rfl; (with_reducible repeat (first | refine blk_drewN ?_ _ | refine blk_drew ?_ | refine blk_alloc ?_ _)); exact BK306.out) hb); replace HB := Aside0.mk (below_step oB hb); clear hb ho20; obtain ⟨⟨_, _, _, _, _, _⟩, _, _, _, _, _, _⟩ := z6 BK304) | ((with_reducible refine gate_builtin (b := .append) (xs := #[.tmp 10, .tmp 12]) rfl ?_); at_builtin; refine Kd.R_append_rows k83 (w0 := w) w.heap.size rfl (.tmp 10) (.tmp 12) 42 83 (.agg #[(.string ⟨#[]⟩), (.int .i64 0)]) 24 rfl Try.underlying42 info83 rfl (by decide) (by omega) v314 y313 l0_4 _ _ _ (fun _ => True) (fun _ => False) rfl rfl ?aO ?aR (fun _ _ h => h) (fun _ h => h.elim) ?aF ?aB ?aS ?aL ?_; (case aR => repeat (first | exact (Kd.C_below HR0_4.out HB.out) | (with_reducible refine Kd.C_alloc ?_ _) | (with_reducible refine Kd.C_drewN ?_ _) | (with_reducible refine Kd.C_drew ?_))); (case aB => exact oB); (case aF => exact (fun _ _ => trivial)); (case aO => exact (oR HO315)); (case aS => exact (below_size oB)); (case aL => have := LMc3.out; omega); intro v317 w22 ho hb hg hat; rw [← Ny316.out] at ho; have HO318 := Aside0.mk (ho); replace BK304 := Aside0.mk (blk_grown (g := gb304) (o := .cells #[.int .i64 a0_0, .int .i64 a0_1, .int .i64 a0_2, .slice A0_3 l0_3.length c0_3, .slice A0_4 l0_4.length c0_4, .slice A0_5 l0_5.length c0_5] 45 (0, 0)) (oF BK304) hg (Kd.R_ne HO315.out BK304.out (by decide))); replace BK305 := Aside0.mk (blk_grown (g := gb305) (o := .cells #[.int .i64 0, .int .i64 0, .int .i64 0, .slice none 0 0, .slice none 0 0, .slice none 0 0] 45 (0, 0)) (oF BK305) hg (Kd.R_ne HO315.out BK305.out (by decide))); replace BK306 := Aside0.mk (blk_grown (g := gb306) (o := .cells #[.int .i64 a0_0, .int .i64 a0_1, .int .i64 a0_2, .slice Ao17 y310.length co17, .slice A0_4 l0_4.length c0_4, .slice A0_5 l0_5.length c0_5] 45 (0, 0)) (oF BK306) hg (Kd.R_ne HO315.out BK306.out (by decide))); replace HO312 := Aside0.mk (Kd.R_over' (oR HO312) (Kd.R_typed (oR HO315)) (by decide) hg); replace HB := Aside0.mk (hb); clear HO315; clear ho hb hg hat; obtain ⟨Ao23, co23, eo23⟩ := Kd.R_slice HO318.out; subst eo23; obtain ⟨⟨_, _, _, _, _, _⟩, _, _, _, _, _, _⟩ := z6 BK306) | ((with_reducible refine gate_dst (N := 15) rfl ?_); refine Kd.R_lit k85 _ 85 ?hg (N := 15) ?hd (xs := ([] : List (S85))) (inner := []) (ok := fun _ => True) (okp := fun _ => True) ?hr ?hp (fun _ hk => hk) trivial (Below.refl _ _) (Nat.le_refl _) (by simp) ?_; (case hd => rfl); (case hg => rfl); (case hr => first | (go_simp; done) | (go_simp; rfl)); (case hp => exact (Reps.none _ _)); intro v320 w25 ho26 hb hg_ hnew_; clear hg_ hnew_; (first | rw [← Ny319.out] at ho26 | (simp only [Int.reduceToNat] at ho26; rw [← Ny319.out] at ho26)); have HO321 := Aside0.mk (Kd.R_lower ho26 (below_size oB)); replace HO312 := Aside0.mk (Kd.R_below (by (with_reducible repeat (first | apply Kd.R_alloc | apply Kd.R_drewN | apply Kd.R_drew)); exact (Kd.R_mono (Kd.R_far (p := ⟨gb306, 4, none⟩) (Kd.R_types HO312.out BK306.out (by decide)) (fun _ hk => hk.2) (.slice Ao23 y316.length co23)) (fun _ h_ => h_.1))) hb); replace HO318 := Aside0.mk (Kd.R_below (by (with_reducible repeat (first | apply Kd.R_alloc | apply Kd.R_drewN | apply Kd.R_drew)); exact (Kd.R_mono (Kd.R_far (p := ⟨gb306, 4, none⟩) (Kd.R_types HO318.out BK306.out (by decide)) (fun _ hk => hk.2) (.slice Ao23 y316.length co23)) (fun _ h_ => h_.1))) hb); replace BK304 := Aside0.mk (blk_below (g := gb304) (o := .cells #[.int .i64 a0_0, .int .i64 a0_1, .int .i64 a0_2, .slice A0_3 l0_3.length c0_3, .slice A0_4 l0_4.length c0_4, .slice A0_5 l0_5.length c0_5] 45 (0, 0)) (by (with_reducible repeat (first | refine blk_drewN ?_ _ | refine blk_drew ?_ | refine blk_alloc ?_ _)); refine blk_far ?_ NB304_306.out _; (with_reducible repeat (first | refine blk_drewN ?_ _ | refine blk_drew ?_ | refine blk_alloc ?_ _)); exact BK304.out) hb); replace BK305 := Aside0.mk (blk_below (g := gb305) (o := .cells #[.int .i64 0, .int .i64 0, .int .i64 0, .slice none 0 0, .slice none 0 0, .slice none 0 0] 45 (0, 0)) (by (with_reducible repeat (first | refine blk_drewN ?_ _ | refine blk_drew ?_ | refine blk_alloc ?_ _)); refine blk_far ?_ NB305_306.out _; (with_reducible repeat (first | refine blk_drewN ?_ _ | refine blk_drew ?_ | refine blk_alloc ?_ _)); exact BK305.out) hb); replace BK306 := Aside0.mk (blk_below (g := gb306) (o := .cells #[.int .i64 a0_0, .int .i64 a0_1, .int .i64 a0_2, .slice Ao17 y310.length co17, .slice Ao23 y316.length co23, .slice A0_5 l0_5.length c0_5] 45 (0, 0)) (by (with_reducible repeat (first | refine blk_drewN ?_ _ | refine blk_drew ?_ | refine blk_alloc ?_ _)); refine blk_put (cs := #[.int .i64 a0_0, .int .i64 a0_1, .int .i64 a0_2, .slice Ao17 y310.length co17, .slice A0_4 l0_4.length c0_4, .slice A0_5 l0_5.length c0_5]) ?_ 4 _ rfl; (with_reducible repeat (first | refine blk_drewN ?_ _ | refine blk_drew ?_ | refine blk_alloc ?_ _)); exact BK306.out) hb); replace HB := Aside0.mk (below_step oB hb); clear hb ho26; obtain ⟨⟨_, _, _, _, _, _⟩, _, _, _, _, _, _⟩ := z6 BK304) | ((with_reducible refine gate_builtin (b := .append) (xs := #[.tmp 15, .tmp 17]) rfl ?_); at_builtin; refine Kd.R_append_rows k85 (w0 := w) w.heap.size rfl (.tmp 15) (.tmp 17) 43 85 (.agg #[(.string ⟨#[]⟩), (.string ⟨#[]⟩)]) 32 rfl Try.underlying43 info85 rfl (by decide) (by omega) v320 y319 l0_5 _ _ _ (fun _ => True) (fun _ => False) rfl rfl ?aO ?aR (fun _ _ h => h) (fun _ h => h.elim) ?aF ?aB ?aS ?aL ?_; (case aR => repeat (first | exact (Kd.C_below HR0_5.out HB.out) | (with_reducible refine Kd.C_alloc ?_ _) | (with_reducible refine Kd.C_drewN ?_ _) | (with_reducible refine Kd.C_drew ?_))); (case aB => exact oB); (case aF => exact (fun _ _ => trivial)); (case aO => exact (oR HO321)); (case aS => exact (below_size oB)); (case aL => have := LMc4.out; omega); intro v323 w28 ho hb hg hat; rw [← Ny322.out] at ho; have HO324 := Aside0.mk (ho); replace BK304 := Aside0.mk (blk_grown (g := gb304) (o := .cells #[.int .i64 a0_0, .int .i64 a0_1, .int .i64 a0_2, .slice A0_3 l0_3.length c0_3, .slice A0_4 l0_4.length c0_4, .slice A0_5 l0_5.length c0_5] 45 (0, 0)) (oF BK304) hg (Kd.R_ne HO321.out BK304.out (by decide))); replace BK305 := Aside0.mk (blk_grown (g := gb305) (o := .cells #[.int .i64 0, .int .i64 0, .int .i64 0, .slice none 0 0, .slice none 0 0, .slice none 0 0] 45 (0, 0)) (oF BK305) hg (Kd.R_ne HO321.out BK305.out (by decide))); replace BK306 := Aside0.mk (blk_grown (g := gb306) (o := .cells #[.int .i64 a0_0, .int .i64 a0_1, .int .i64 a0_2, .slice Ao17 y310.length co17, .slice Ao23 y316.length co23, .slice A0_5 l0_5.length c0_5] 45 (0, 0)) (oF BK306) hg (Kd.R_ne HO321.out BK306.out (by decide))); replace HO312 := Aside0.mk (Kd.R_over' (oR HO312) (Kd.R_typed (oR HO321)) (by decide) hg); replace HO318 := Aside0.mk (Kd.R_over' (oR HO318) (Kd.R_typed (oR HO321)) (by decide) hg); replace HB := Aside0.mk (hb); clear HO321; clear ho hb hg hat; obtain ⟨Ao29, co29, eo29⟩ := Kd.R_slice HO324.out; subst eo29; obtain ⟨⟨_, _, _, _, _, _⟩, _, _, _, _, _, _⟩ := z6 BK306; obtain ⟨⟨_, _, _, _, _, _⟩, _, _, _, _, _, _⟩ := z6 BK305))
    refine bodyPost_ret (results_cell_row rfl _ _ gb305 45 #[.int .i64 a0_0, .int .i64 a0_1, .int .i64 a0_2, .slice Ao17 y310.length co17, .slice Ao23 y316.length co23, .slice Ao29 y322.length co29] (0, 0) _ rfl (by (with_reducible repeat (first | refine blk_drewN ?_ _ | refine blk_drew ?_ | refine blk_alloc ?_ _)); refine blk_put (cs := #[.int .i64 a0_0, .int .i64 a0_1, .int .i64 a0_2, .slice Ao17 y310.length co17, .slice Ao23 y316.length co23, .slice none 0 0]) ?_ 5 _ rfl; (with_reducible repeat (first | refine blk_drewN ?_ _ | refine blk_drew ?_ | refine blk_alloc ?_ _)); refine blk_put (cs := #[.int .i64 a0_0, .int .i64 a0_1, .int .i64 a0_2, .slice Ao17 y310.length co17, .slice none 0 0, .slice none 0 0]) ?_ 4 _ rfl; (with_reducible repeat (first | refine blk_drewN ?_ _ | refine blk_drew ?_ | refine blk_alloc ?_ _)); refine blk_put (cs := #[.int .i64 a0_0, .int .i64 a0_1, .int .i64 a0_2, .slice none 0 0, .slice none 0 0, .slice none 0 0]) ?_ 3 _ rfl; (with_reducible repeat (first | refine blk_drewN ?_ _ | refine blk_drew ?_ | refine blk_alloc ?_ _)); refine blk_put (cs := #[.int .i64 a0_0, .int .i64 a0_1, .int .i64 0, .slice none 0 0, .slice none 0 0, .slice none 0 0]) ?_ 2 _ rfl; (with_reducible repeat (first | refine blk_drewN ?_ _ | refine blk_drew ?_ | refine blk_alloc ?_ _)); refine blk_put (cs := #[.int .i64 a0_0, .int .i64 0, .int .i64 0, .slice none 0 0, .slice none 0 0, .slice none 0 0]) ?_ 1 _ rfl; (with_reducible repeat (first | refine blk_drewN ?_ _ | refine blk_drew ?_ | refine blk_alloc ?_ _)); refine blk_put (cs := #[.int .i64 0, .int .i64 0, .int .i64 0, .slice none 0 0, .slice none 0 0, .slice none 0 0]) ?_ 0 _ rfl; (with_reducible repeat (first | refine blk_drewN ?_ _ | refine blk_drew ?_ | refine blk_alloc ?_ _)); refine blk_far ?_ NB305_306.out _; (with_reducible repeat (first | refine blk_drewN ?_ _ | refine blk_drew ?_ | refine blk_alloc ?_ _)); exact BK305.out) Try.underlying45 rfl (by kernel_rfl)) rfl ?_
    exact ⟨_, _, _, oE, by (with_reducible repeat (first | apply Kd.R_alloc | apply Kd.R_drewN | apply Kd.R_drew)); exact Kd.R_mono (Kd.R_far (p := ⟨gb305, 5, none⟩) (Kd.R_far (p := ⟨gb305, 4, none⟩) (Kd.R_far (p := ⟨gb305, 3, none⟩) (Kd.R_far (p := ⟨gb305, 2, none⟩) (Kd.R_far (p := ⟨gb305, 1, none⟩) (Kd.R_far (p := ⟨gb305, 0, none⟩) (Kd.R_far (p := ⟨gb306, 5, none⟩) (Kd.R_types (Kd.R_types HO312.out BK306.out (by decide)) BK305.out (by decide)) (fun _ hk => hk.1.2) (.slice Ao29 y322.length co29)) (fun _ hk => hk.2) (.int .i64 a0_0)) (fun _ hk => hk.2) (.int .i64 a0_1)) (fun _ hk => hk.2) (.int .i64 a0_2)) (fun _ hk => hk.2) (.slice Ao17 y310.length co17)) (fun _ hk => hk.2) (.slice Ao23 y316.length co23)) (fun _ hk => hk.2) (.slice Ao29 y322.length co29)) (fun _ hk => trivial), by (with_reducible repeat (first | apply Kd.R_alloc | apply Kd.R_drewN | apply Kd.R_drew)); exact Kd.R_mono (Kd.R_far (p := ⟨gb305, 5, none⟩) (Kd.R_far (p := ⟨gb305, 4, none⟩) (Kd.R_far (p := ⟨gb305, 3, none⟩) (Kd.R_far (p := ⟨gb305, 2, none⟩) (Kd.R_far (p := ⟨gb305, 1, none⟩) (Kd.R_far (p := ⟨gb305, 0, none⟩) (Kd.R_far (p := ⟨gb306, 5, none⟩) (Kd.R_types (Kd.R_types HO318.out BK306.out (by decide)) BK305.out (by decide)) (fun _ hk => hk.1.2) (.slice Ao29 y322.length co29)) (fun _ hk => hk.2) (.int .i64 a0_0)) (fun _ hk => hk.2) (.int .i64 a0_1)) (fun _ hk => hk.2) (.int .i64 a0_2)) (fun _ hk => hk.2) (.slice Ao17 y310.length co17)) (fun _ hk => hk.2) (.slice Ao23 y316.length co23)) (fun _ hk => hk.2) (.slice Ao29 y322.length co29)) (fun _ hk => trivial), by (with_reducible repeat (first | apply Kd.R_alloc | apply Kd.R_drewN | apply Kd.R_drew)); exact Kd.R_mono (Kd.R_far (p := ⟨gb305, 5, none⟩) (Kd.R_far (p := ⟨gb305, 4, none⟩) (Kd.R_far (p := ⟨gb305, 3, none⟩) (Kd.R_far (p := ⟨gb305, 2, none⟩) (Kd.R_far (p := ⟨gb305, 1, none⟩) (Kd.R_far (p := ⟨gb305, 0, none⟩) (Kd.R_far (p := ⟨gb306, 5, none⟩) (Kd.R_types (Kd.R_types HO324.out BK306.out (by decide)) BK305.out (by decide)) (fun _ hk => hk.1.2) (.slice Ao29 y322.length co29)) (fun _ hk => hk.2) (.int .i64 a0_0)) (fun _ hk => hk.2) (.int .i64 a0_1)) (fun _ hk => hk.2) (.int .i64 a0_2)) (fun _ hk => hk.2) (.slice Ao17 y310.length co17)) (fun _ hk => hk.2) (.slice Ao23 y316.length co23)) (fun _ hk => hk.2) (.slice Ao29 y322.length co29)) (fun _ hk => trivial), oB⟩
   ·rw [if_neg c4] at H
    exact absurd H (by simp)
  ·rw [if_neg c3] at H
   exact absurd H (by simp)
 ·rw [if_neg c2] at H
  exact absurd H (by simp)

/-! ### spec_InodeAt: function 51 -/
def spec_InodeAt.f (k : Nat) (l0_0 : List (S45)) (a0_1 : Int) (a1 : Int) : Option (Int × Int × Int × List Int × (List (S83)) × (List (S85)) × Bool) := (spec_l4At.f k l0_0 a0_1 a1).bind fun t327 => (if t327 < 0 then (some (0, 0, 0, ([] : List Int), ([] : List (S83)), ([] : List (S85)), false)) else (if 0 ≤ t327 then (if t327 < (l0_0.length : Int) then ((spec_l3Copy.f ((rd_T45 l0_0 t327).f0) ((rd_T45 l0_0 t327).f1) ((rd_T45 l0_0 t327).f2) ((rd_T45 l0_0 t327).f3) ((rd_T45 l0_0 t327).f4) ((rd_T45 l0_0 t327).f5)).bind fun bt329 => (some (bt329.1, bt329.2.1, bt329.2.2.1, bt329.2.2.2.1, bt329.2.2.2.2.1, bt329.2.2.2.2.2, true))) else (none)) else (none)))
set_option maxHeartbeats 8000000 in
set_option maxRecDepth 100000 in
theorem spec_InodeAt.calls (k : Nat) (A0_0 : Option Addr) (c0_0 : Nat) (l0_0 : List (S45)) (a0_1 : Int) (a1 : Int) (r1 : Int) (r2 : Int) (r3 : Int) (r4 : List Int) (r5 : List (S83)) (r6 : List (S85)) (r7 : Bool) (w : World) (hr0_0 : Kd.C k45 w A0_0 l0_0.length l0_0) (hc0_0 : l0_0.length ≤ c0_0) (h : spec_InodeAt.f k l0_0 a0_1 a1 = some (r1, r2, r3, r4, r5, r6, r7)) :
  Calls Try.prog 51 #[.agg #[.slice A0_0 l0_0.length c0_0, .int .i64 a0_1], .int .i64 a1] w fun e w' => ∃ v3_ v4_ v5_ : Value, e = .returned (.tuple #[.agg #[.int .i64 r1, .int .i64 r2, .int .i64 r3, v3_, v4_, v5_], .bool r7]) ∧ Kd.R (Kd.int .u8) 5 w' w.heap.size (fun _ => True) v3_ r4 ∧ Kd.R k83 83 w' w.heap.size (fun _ => True) v4_ r5 ∧ Kd.R k85 85 w' w.heap.size (fun _ => True) v5_ r6 ∧ Below w.heap.size w w' := by
 have hu30 := Try.underlying30
 have hu45 := Try.underlying45
 have HR0_0 := Aside0.mk hr0_0
 have HC0_0 := Aside0.mk hc0_0
 clear hr0_0 hc0_0
 have HB := Aside0.mk (Below.refl w.heap.size w)
 unfold spec_InodeAt.f at h
 have H := h
 clear h
 replace H := bA H
 obtain ⟨t327, A3, H⟩ := H
 try dsimp only at H
 replace H := itD H
 rcases H with ⟨c4b0, H⟩ | ⟨c4b0, H⟩
 ·simp only [Option.some.injEq, Prod.mk.injEq] at H
  obtain ⟨rfl, rfl, rfl, rfl, rfl, rfl, rfl⟩ := H
  go_enter Try.func51, Try.ntmps51
  go_wp2_with (first | ((with_reducible refine gate_dst (N := 2) rfl ?_); refine bx_ 2 #[.slice A0_0 l0_0.length c0_0, .int .i64 a0_1] 30 ?_; intro gb325 hg w5 hbox hb; have BK325 := Aside0.mk (hbox); have GW325 := gs_ hg; have GE325 := gs_ hg; replace HB := Aside0.mk (below_step oB hb); clear hb hbox hg) | ((with_reducible refine gate_dst (N := 4) rfl ?_); refine bx_ 4 #[.int .i64 0, .int .i64 0, .int .i64 0, .slice none 0 0, .slice none 0 0, .slice none 0 0] 45 ?_; intro gb326 hg w6 hbox hb; have BK326 := Aside0.mk (hbox); have GW326 := gs_ hg; have GE326 := gs_ hg; have NB325_326 := nl_ hg BK325; have NB326_325 := nr_ hg BK325; replace BK325 := kb_ BK325 hb; replace HB := Aside0.mk (below_step oB hb); clear hb hbox hg; have hnb7 := NB325_326.out; have hnc7 := NB326_325.out; obtain ⟨⟨_, _⟩, _, _⟩ := z2 BK325) | ((with_reducible refine gate_callee (f := 101) rfl ?_); refine gl_ 9 Try.func101 (spec_l4At.calls k _ _ l0_0 a0_1 a1 t327 _ (kC HR0_0) HC0_0.out A3.out) ?_; rintro e w9 ⟨rfl, hb⟩; refine ⟨_, rfl, ?_⟩; replace BK325 := kb_ BK325 hb; replace BK326 := kb_ BK326 hb; replace HB := Aside0.mk (below_step oB hb); obtain ⟨⟨_, _, _, _, _, _⟩, _, _, _, _, _, _⟩ := z6 BK326))
  refine bodyPost_ret (results_ct rfl _ _ gb326 45 #[.int .i64 0, .int .i64 0, .int .i64 0, .slice none 0 0, .slice none 0 0, .slice none 0 0] (0, 0) _ rfl (by (with_reducible repeat (first | refine blk_drewN ?_ _ | refine blk_drew ?_ | refine blk_alloc ?_ _)); refine blk_put (cs := #[.int .i64 0, .int .i64 0, .int .i64 0, .slice none 0 0, .slice none 0 0, .slice none 0 0]) ?_ 5 _ rfl; (with_reducible repeat (first | refine blk_drewN ?_ _ | refine blk_drew ?_ | refine blk_alloc ?_ _)); refine blk_put (cs := #[.int .i64 0, .int .i64 0, .int .i64 0, .slice none 0 0, .slice none 0 0, .slice none 0 0]) ?_ 4 _ rfl; (with_reducible repeat (first | refine blk_drewN ?_ _ | refine blk_drew ?_ | refine blk_alloc ?_ _)); refine blk_put (cs := #[.int .i64 0, .int .i64 0, .int .i64 0, .slice none 0 0, .slice none 0 0, .slice none 0 0]) ?_ 3 _ rfl; (with_reducible repeat (first | refine blk_drewN ?_ _ | refine blk_drew ?_ | refine blk_alloc ?_ _)); refine blk_put (cs := #[.int .i64 0, .int .i64 0, .int .i64 0, .slice none 0 0, .slice none 0 0, .slice none 0 0]) ?_ 2 _ rfl; (with_reducible repeat (first | refine blk_drewN ?_ _ | refine blk_drew ?_ | refine blk_alloc ?_ _)); refine blk_put (cs := #[.int .i64 0, .int .i64 0, .int .i64 0, .slice none 0 0, .slice none 0 0, .slice none 0 0]) ?_ 1 _ rfl; (with_reducible repeat (first | refine blk_drewN ?_ _ | refine blk_drew ?_ | refine blk_alloc ?_ _)); refine blk_put (cs := #[.int .i64 0, .int .i64 0, .int .i64 0, .slice none 0 0, .slice none 0 0, .slice none 0 0]) ?_ 0 _ rfl; (with_reducible repeat (first | refine blk_drewN ?_ _ | refine blk_drew ?_ | refine blk_alloc ?_ _)); exact BK326.out) Try.underlying45 rfl (by kernel_rfl)) rfl ?_
  exact ⟨_, _, _, oE, by first | exact Kd.R_nil _ _ _ _ _ | exact Kd.N_nil _ _ _ _ _ | exact Kd.V_nil _ _ _ _ _ | exact Kd.Q_nil _ _ _ _ _ | exact Kd.S_nil _ _ _ _ _, by first | exact Kd.R_nil _ _ _ _ _ | exact Kd.N_nil _ _ _ _ _ | exact Kd.V_nil _ _ _ _ _ | exact Kd.Q_nil _ _ _ _ _ | exact Kd.S_nil _ _ _ _ _, by first | exact Kd.R_nil _ _ _ _ _ | exact Kd.N_nil _ _ _ _ _ | exact Kd.V_nil _ _ _ _ _ | exact Kd.Q_nil _ _ _ _ _ | exact Kd.S_nil _ _ _ _ _, oB⟩
 ·replace H := itD H
  rcases H with ⟨c11b0, H⟩ | ⟨c11b0, H⟩
  ·replace H := itD H
   rcases H with ⟨c12b0, H⟩ | ⟨c12b0, H⟩
   ·replace H := bA H
    obtain ⟨⟨t329, t330, t331, t332, t335, t338⟩, A13, H⟩ := H
    try dsimp only at H
    simp only [Option.some.injEq, Prod.mk.injEq] at H
    obtain ⟨rfl, rfl, rfl, rfl, rfl, rfl, rfl⟩ := H
    go_enter Try.func51, Try.ntmps51
    go_wp2_with (first | ((with_reducible refine gate_dst (N := 2) rfl ?_); refine bx_ 2 #[.slice A0_0 l0_0.length c0_0, .int .i64 a0_1] 30 ?_; intro gb325 hg w14 hbox hb; have BK325 := Aside0.mk (hbox); have GW325 := gs_ hg; have GE325 := gs_ hg; replace HB := Aside0.mk (below_step oB hb); clear hb hbox hg) | ((with_reducible refine gate_dst (N := 4) rfl ?_); refine bx_ 4 #[.int .i64 0, .int .i64 0, .int .i64 0, .slice none 0 0, .slice none 0 0, .slice none 0 0] 45 ?_; intro gb326 hg w15 hbox hb; have BK326 := Aside0.mk (hbox); have GW326 := gs_ hg; have GE326 := gs_ hg; have NB325_326 := nl_ hg BK325; have NB326_325 := nr_ hg BK325; replace BK325 := kb_ BK325 hb; replace HB := Aside0.mk (below_step oB hb); clear hb hbox hg; have hnb16 := NB325_326.out; have hnc16 := NB326_325.out; obtain ⟨⟨_, _⟩, _, _⟩ := z2 BK325) | ((with_reducible refine gate_callee (f := 101) rfl ?_); refine gl_ 9 Try.func101 (spec_l4At.calls k _ _ l0_0 a0_1 a1 t327 _ (kC HR0_0) HC0_0.out A3.out) ?_; rintro e w18 ⟨rfl, hb⟩; refine ⟨_, rfl, ?_⟩; replace BK325 := kb_ BK325 hb; replace BK326 := kb_ BK326 hb; replace HB := Aside0.mk (below_step oB hb); obtain ⟨⟨_, _⟩, _, _⟩ := z2 BK325; have p328 : (0 ≤ (t327 : Int)) = True := oT; have q328 : (t327 < (l0_0.length : Int)) = True := oT; obtain ⟨ad328, A328_3, c328_3, A328_4, c328_4, A328_5, c328_5, e328, hx328_0, hx328_1, hx328_2, hx328_3, hx328_4, hx328_5, hl328_3, hi328_3, hl328_4, hi328_4, hl328_5, hi328_5⟩ := at_T45 HR0_0.out t327 oa oa; cases e328; replace hx328_0 := cB HB hx328_0; replace hx328_1 := cB HB hx328_1; replace hx328_2 := cB HB hx328_2; replace hx328_3 := cB HB hx328_3; replace hx328_4 := cB HB hx328_4; replace hx328_5 := cB HB hx328_5; have HR328_3 := Aside0.mk hi328_3; have HC328_3 := Aside0.mk hl328_3; clear hi328_3 hl328_3; have HR328_4 := Aside0.mk hi328_4; have HC328_4 := Aside0.mk hl328_4; clear hi328_4 hl328_4; have HR328_5 := Aside0.mk hi328_5; have HC328_5 := Aside0.mk hl328_5; clear hi328_5 hl328_5) | ((with_reducible refine gate_callee (f := 102) rfl ?_); refine gl_ 18 Try.func102 (spec_l3Copy.calls ((rd_T45 l0_0 t327).f0) ((rd_T45 l0_0 t327).f1) ((rd_T45 l0_0 t327).f2) _ _ ((rd_T45 l0_0 t327).f3) _ _ ((rd_T45 l0_0 t327).f4) _ _ ((rd_T45 l0_0 t327).f5) t329 t330 t331 t332 t335 t338 _ (kC HR328_3) HC328_3.out (kC HR328_4) HC328_4.out (kC HR328_5) HC328_5.out A13.out) ?_; rintro e w20 ⟨v333, v336, v339, rfl, ho0, ho1, ho2, hb⟩; refine ⟨_, rfl, ?_⟩; have HO334 := Aside0.mk (Kd.R_lower ho0 (below_size oB)); have HO337 := Aside0.mk (Kd.R_lower ho1 (below_size oB)); have HO340 := Aside0.mk (Kd.R_lower ho2 (below_size oB)); replace BK325 := kb_ BK325 hb; replace BK326 := kb_ BK326 hb; replace HB := Aside0.mk (below_step oB hb); (try clear ho1); (try clear ho2); obtain ⟨⟨_, _, _, _, _, _⟩, _, _, _, _, _, _⟩ := z6 BK326; obtain ⟨Ao22, co22, eo22⟩ := Kd.R_slice HO334.out; subst eo22; obtain ⟨Ao23, co23, eo23⟩ := Kd.R_slice HO337.out; subst eo23; obtain ⟨Ao24, co24, eo24⟩ := Kd.R_slice HO340.out; subst eo24))
    refine bodyPost_ret (results_ct rfl _ _ gb326 45 #[.int .i64 t329, .int .i64 t330, .int .i64 t331, .slice Ao22 t332.length co22, .slice Ao23 t335.length co23, .slice Ao24 t338.length co24] (0, 0) _ rfl (by (with_reducible repeat (first | refine blk_drewN ?_ _ | refine blk_drew ?_ | refine blk_alloc ?_ _)); refine blk_put (cs := #[.int .i64 t329, .int .i64 t330, .int .i64 t331, .slice Ao22 t332.length co22, .slice Ao23 t335.length co23, .slice none 0 0]) ?_ 5 _ rfl; (with_reducible repeat (first | refine blk_drewN ?_ _ | refine blk_drew ?_ | refine blk_alloc ?_ _)); refine blk_put (cs := #[.int .i64 t329, .int .i64 t330, .int .i64 t331, .slice Ao22 t332.length co22, .slice none 0 0, .slice none 0 0]) ?_ 4 _ rfl; (with_reducible repeat (first | refine blk_drewN ?_ _ | refine blk_drew ?_ | refine blk_alloc ?_ _)); refine blk_put (cs := #[.int .i64 t329, .int .i64 t330, .int .i64 t331, .slice none 0 0, .slice none 0 0, .slice none 0 0]) ?_ 3 _ rfl; (with_reducible repeat (first | refine blk_drewN ?_ _ | refine blk_drew ?_ | refine blk_alloc ?_ _)); refine blk_put (cs := #[.int .i64 t329, .int .i64 t330, .int .i64 0, .slice none 0 0, .slice none 0 0, .slice none 0 0]) ?_ 2 _ rfl; (with_reducible repeat (first | refine blk_drewN ?_ _ | refine blk_drew ?_ | refine blk_alloc ?_ _)); refine blk_put (cs := #[.int .i64 t329, .int .i64 0, .int .i64 0, .slice none 0 0, .slice none 0 0, .slice none 0 0]) ?_ 1 _ rfl; (with_reducible repeat (first | refine blk_drewN ?_ _ | refine blk_drew ?_ | refine blk_alloc ?_ _)); refine blk_put (cs := #[.int .i64 0, .int .i64 0, .int .i64 0, .slice none 0 0, .slice none 0 0, .slice none 0 0]) ?_ 0 _ rfl; (with_reducible repeat (first | refine blk_drewN ?_ _ | refine blk_drew ?_ | refine blk_alloc ?_ _)); exact BK326.out) Try.underlying45 rfl (by kernel_rfl)) rfl ?_
    exact ⟨_, _, _, oE, by (with_reducible repeat (first | apply Kd.R_alloc | apply Kd.R_drewN | apply Kd.R_drew)); exact Kd.R_mono (Kd.R_far (p := ⟨gb326, 5, none⟩) (Kd.R_far (p := ⟨gb326, 4, none⟩) (Kd.R_far (p := ⟨gb326, 3, none⟩) (Kd.R_far (p := ⟨gb326, 2, none⟩) (Kd.R_far (p := ⟨gb326, 1, none⟩) (Kd.R_far (p := ⟨gb326, 0, none⟩) (Kd.R_types HO334.out BK326.out (by decide)) (fun _ hk => hk.2) (.int .i64 t329)) (fun _ hk => hk.2) (.int .i64 t330)) (fun _ hk => hk.2) (.int .i64 t331)) (fun _ hk => hk.2) (.slice Ao22 t332.length co22)) (fun _ hk => hk.2) (.slice Ao23 t335.length co23)) (fun _ hk => hk.2) (.slice Ao24 t338.length co24)) (fun _ hk => trivial), by (with_reducible repeat (first | apply Kd.R_alloc | apply Kd.R_drewN | apply Kd.R_drew)); exact Kd.R_mono (Kd.R_far (p := ⟨gb326, 5, none⟩) (Kd.R_far (p := ⟨gb326, 4, none⟩) (Kd.R_far (p := ⟨gb326, 3, none⟩) (Kd.R_far (p := ⟨gb326, 2, none⟩) (Kd.R_far (p := ⟨gb326, 1, none⟩) (Kd.R_far (p := ⟨gb326, 0, none⟩) (Kd.R_types HO337.out BK326.out (by decide)) (fun _ hk => hk.2) (.int .i64 t329)) (fun _ hk => hk.2) (.int .i64 t330)) (fun _ hk => hk.2) (.int .i64 t331)) (fun _ hk => hk.2) (.slice Ao22 t332.length co22)) (fun _ hk => hk.2) (.slice Ao23 t335.length co23)) (fun _ hk => hk.2) (.slice Ao24 t338.length co24)) (fun _ hk => trivial), by (with_reducible repeat (first | apply Kd.R_alloc | apply Kd.R_drewN | apply Kd.R_drew)); exact Kd.R_mono (Kd.R_far (p := ⟨gb326, 5, none⟩) (Kd.R_far (p := ⟨gb326, 4, none⟩) (Kd.R_far (p := ⟨gb326, 3, none⟩) (Kd.R_far (p := ⟨gb326, 2, none⟩) (Kd.R_far (p := ⟨gb326, 1, none⟩) (Kd.R_far (p := ⟨gb326, 0, none⟩) (Kd.R_types HO340.out BK326.out (by decide)) (fun _ hk => hk.2) (.int .i64 t329)) (fun _ hk => hk.2) (.int .i64 t330)) (fun _ hk => hk.2) (.int .i64 t331)) (fun _ hk => hk.2) (.slice Ao22 t332.length co22)) (fun _ hk => hk.2) (.slice Ao23 t335.length co23)) (fun _ hk => hk.2) (.slice Ao24 t338.length co24)) (fun _ hk => trivial), oB⟩
   ·cases H
  ·cases H

-- NOT PRINTED: function 111 (slices_IndexFunc_Inode)

/-! ### impl_placeOf: function 103 -/
def placeR (ino : Int) : List S45 → Nat → Int
 | [], _ => -1
 | x :: l, i => if x.f0 = ino then (i : Int) else placeR ino l (i + 1)
theorem placeOf1.calls (ino a b c : Int) (A3 A4 A5 : Option Addr) (n3 c3 n4 c4 n5 c5 : Nat) (B : Nat) (W : World) (hB : B < W.heap.size) (hc : W.cell? ⟨B, 0, none⟩ = some (.int .i64 ino)) :
  Calls Try.prog 133 #[.agg #[.int .i64 a, .int .i64 b, .int .i64 c, .slice A3 n3 c3, .slice A4 n4 c4, .slice A5 n5 c5], .pointer (some ⟨B, 0, none⟩)] W fun e w' => e = .returned (.bool (a == ino)) ∧ Below W.heap.size W w' := by
 have hne : B ≠ W.heap.size := by omega
 go_enter Try.func133, Try.ntmps133
 go_wp2
 all_goals (go_ret; exact ⟨by simp_all, (Below.refl _ W).alloc (Nat.le_refl _) _⟩)
theorem placeR_none (ino : Int) (l : List S45) (i : Nat) (h : ∀ x ∈ l, x.f0 ≠ ino) : placeR ino l i = -1 := by
 induction l generalizing i with
 | nil => rfl
 | cons x l ih => rw [placeR, if_neg (h x (List.mem_cons_self ..))]; exact ih (i + 1) (fun y hy => h y (List.mem_cons_of_mem _ hy))
theorem rd45_at (l : List S45) (k : Nat) (h : k < l.length) : rd_T45 l (k : Int) = l[k] := by
 simp [rd_T45, List.getD_eq_getElem?_getD, List.getElem?_eq_getElem h]
theorem placeR_hit (ino : Int) (l : List S45) (k j : Nat) (h : k < l.length) (hit : (rd_T45 l (k : Int)).f0 = ino) : placeR ino (l.drop k) j = (j : Int) := by
 rw [List.drop_eq_getElem_cons h, placeR, if_pos (by rw [← rd45_at l k h]; exact hit)]
theorem placeR_miss (ino : Int) (l : List S45) (k j : Nat) (h : k < l.length) (hit : (rd_T45 l (k : Int)).f0 ≠ ino) : placeR ino (l.drop k) j = placeR ino (l.drop (k + 1)) (j + 1) := by
 rw [List.drop_eq_getElem_cons h, placeR, if_neg (by rw [← rd45_at l k h]; exact hit)]
set_option maxHeartbeats 400000 in
set_option maxRecDepth 100000 in
theorem placeOf2.calls (ino : Int) (A0 : Option Addr) (c0 : Nat) (l : List S45) (B : Nat) (w : World) (hr : k45.C w A0 l.length l) (hB : B < w.heap.size) (hc : w.cell? ⟨B, 0, none⟩ = some (.int .i64 ino)) (hl : l.length ≤ 9223372036854775807) :
  Calls Try.prog 111 #[.slice A0 l.length c0, .func (.func 133) #[] #[.pointer (some ⟨B, 0, none⟩)]] w fun e w' => e = .returned (.int .i64 (placeR ino l 0)) ∧ Below w.heap.size w w' := by
 go_enter Try.func111, Try.ntmps111
 go_wp2
 go_loopg [5, 8] l.length (fun gg _ s8 wr => ∃ kk : Nat, kk ≤ l.length ∧ l.length - kk ≤ gg ∧ s8 = .int .i64 kk ∧ Aside0 (Below w.heap.size w wr) ∧ Aside0 (placeR ino l 0 = placeR ino (l.drop kk) kk))
 case atStart => exact ⟨0, Nat.zero_le _, by omega, rfl, ⟨Below.refl _ w⟩, ⟨rfl⟩⟩
 case round =>
  obtain ⟨kk, hkk, hg, rfl, BW, A⟩ := hrel
  by_cases hlt : kk < l.length
  ·have hltz : (kk : Int) < (l.length : Int) := by omega
   obtain ⟨ad, A3, c3, A4, c4, A5, c5, e0, h0, h1, h2, h3, h4, h5, _⟩ := at_T45 (Kd.C_below hr BW.out) (kk : Int) (by omega) hltz
   cases e0
   rw [Int.toNat_natCast] at h0 h1 h2 h3 h4 h5
   have hBw : B < wr.heap.size := Nat.lt_of_lt_of_le hB BW.out.size
   have hcw : wr.cell? ⟨B, 0, none⟩ = some (.int .i64 ino) := (BW.out.cell (p := ⟨B, 0, none⟩) hB).trans hc
   by_cases hit : (rd_T45 l (kk : Int)).f0 = ino
   ·have hq : ((rd_T45 l (kk : Int)).f0 == ino) = true := by simpa using hit
    go_wp2_with (go_at_call 133; refine (placeOf1.calls ino _ _ _ _ _ _ _ _ _ _ _ _ B wr hBw hcw).mono ?_; rintro e w' ⟨rfl, hb'⟩)
    go_ret
    exact ⟨by rw [A.out, placeR_hit ino l kk kk hlt hit]; rfl, below_then BW.out BW.out.size hb'⟩
   ·have hq : ((rd_T45 l (kk : Int)).f0 == ino) = false := by simpa using hit
    go_wp2_with (go_at_call 133; refine (placeOf1.calls ino _ _ _ _ _ _ _ _ _ _ _ _ B wr hBw hcw).mono ?_; rintro e w' ⟨rfl, hb'⟩)
    go_roundg (l.length - (kk + 1))
    case measure => omega
    case rel => exact ⟨kk + 1, by omega, by omega, by go_num, ⟨below_then BW.out BW.out.size hb'⟩, ⟨by rw [A.out, placeR_miss ino l kk kk hlt hit]⟩⟩
  ·have hltz : ¬ (kk : Int) < (l.length : Int) := by omega
   obtain rfl : kk = l.length := by omega
   go_wp2
   go_ret
   exact ⟨by rw [A.out, List.drop_length]; rfl, BW.out⟩
def impl_placeOf.f (k : Nat) (l0_0 : List S45) (a0_1 a1 : Int) : Option Int := if (l0_0.length : Int) ≤ 9223372036854775807 then some (placeR a1 l0_0 0) else none
set_option maxHeartbeats 400000 in
theorem impl_placeOf.calls (k : Nat) (A0_0 : Option Addr) (c0_0 : Nat) (l0_0 : List S45) (a0_1 a1 : Int) (r : Int) (w : World) (hr0_0 : Kd.C k45 w A0_0 l0_0.length l0_0) (hc0_0 : l0_0.length ≤ c0_0) (h : impl_placeOf.f k l0_0 a0_1 a1 = some r) :
  Calls Try.prog 103 #[.agg #[.slice A0_0 l0_0.length c0_0, .int .i64 a0_1], .int .i64 a1] w fun e w' => e = .returned (.int .i64 r) ∧ Below w.heap.size w w' := by
 unfold impl_placeOf.f at h
 split at h
 case isFalse => cases h
 case isTrue hl =>
 obtain rfl := Option.some.inj h
 clear h
 have hw1 : Below w.heap.size w (w.alloc (.cells #[.slice A0_0 l0_0.length c0_0, .int .i64 a0_1] 30)) := (Below.refl _ w).alloc (Nat.le_refl _) _
 have hw2 : Below w.heap.size w ((w.alloc (.cells #[.slice A0_0 l0_0.length c0_0, .int .i64 a0_1] 30)).alloc (.cells #[.int .i64 a1] 3)) := hw1.alloc (by simp) _
 have hcon := placeOf2.calls a1 A0_0 c0_0 l0_0 (w.heap.size + 1) ((w.alloc (.cells #[.slice A0_0 l0_0.length c0_0, .int .i64 a0_1] 30)).alloc (.cells #[.int .i64 a1] 3)) (Kd.C_below hr0_0 hw2) (by simp) (by simp) (by omega)
 clear hr0_0 hw1
 go_enter Try.func103, Try.ntmps103
 go_wp2_with (go_at_call 111; refine hcon.mono ?_; rintro e w' ⟨rfl, hb'⟩)
 go_ret
 exact ⟨rfl, below_then hw2 (by simp only [World.size_alloc]; omega) hb'⟩
/-! ### slices_Clone_byte_byte: function 131 -/
def slices_Clone_byte_byte.f (l0 : List Int) : Option (List Int) := (some (([] : List Int) : List Int)).bind fun y341 => (if y341.length + l0.length < 140737488355328 then (some (y341 ++ l0)) else (none))
set_option maxHeartbeats 8000000 in
set_option maxRecDepth 100000 in
theorem slices_Clone_byte_byte.calls_some (a0_ : Addr) (c0 : Nat) (l0 : List Int) (r : List Int) (w : World) (hr0 : Kd.C (Kd.int .u8) w (some a0_) l0.length l0) (hc0 : l0.length ≤ c0) (h : slices_Clone_byte_byte.f l0 = some r) :
  Calls Try.prog 131 #[.slice (some a0_) l0.length c0] w fun e w' => ∃ v0_ : Value, e = .returned (v0_) ∧ Kd.R (Kd.int .u8) 5 w' w.heap.size (fun _ => True) v0_ r ∧ Below w.heap.size w w' := by
 have HR0 := Aside0.mk hr0
 have HC0 := Aside0.mk hc0
 clear hr0 hc0
 have HB := Aside0.mk (Below.refl w.heap.size w)
 unfold slices_Clone_byte_byte.f at h
 have H := h
 clear h
 obtain ⟨y341, hy341⟩ : ∃ y_ : List Int, y_ = (([] : List Int)) := ⟨_, rfl⟩
 replace H : (if y341.length + l0.length < 140737488355328 then (some (y341 ++ l0)) else (none)) = some r := by first | (rw [hy341]; with_reducible exact H) | (have H2_ := (Option.bind_some _ _).symm.trans H; rw [hy341]; with_reducible exact H2_) | (have H2_ := (Option.bind_some _ _).symm.trans H; with_reducible exact H2_) | with_reducible exact H | (rw [hy341]; exact H) | exact H
 have Ny341 := Aside0.mk hy341
 clear hy341
 by_cases c2 : y341.length + l0.length < 140737488355328
 ·rw [if_pos c2] at H
  have LMc2 := Aside0.mk c2
  clear c2
  obtain ⟨y344, hy344⟩ : ∃ y_ : List Int, y_ = (y341 ++ l0) := ⟨_, rfl⟩
  replace H : (some y344) = some r := by first | (rw [hy344]; with_reducible exact H) | (have H2_ := (Option.bind_some _ _).symm.trans H; rw [hy344]; with_reducible exact H2_) | (have H2_ := (Option.bind_some _ _).symm.trans H; with_reducible exact H2_) | with_reducible exact H | (rw [hy344]; exact H) | exact H
  have Ny344 := Aside0.mk hy344
  clear hy344
  obtain rfl := Option.some.inj H
  have hq_ := Lib.run_eql_slice_nil (P := Try.prog) w 35 5 (some a0_) l0.length c0 0 0 (by kernel_rfl)
  go_enter Try.func131, Try.ntmps131
  go_wp2_with (first | ((with_reducible refine gate_dst (N := 5) rfl ?_); refine Kd.R_lit (Kd.int .u8) _ 5 ?hg (N := 5) ?hd (xs := ([] : List Int)) (inner := []) (ok := fun _ => True) (okp := fun _ => True) ?hr ?hp (fun _ hk => hk) trivial (Below.refl _ _) (Nat.le_refl _) (by simp) ?_; (case hd => rfl); (case hg => rfl); (case hr => first | (go_simp; done) | (go_simp; rfl)); (case hp => exact (Reps.none _ _)); intro v342 w3 ho4 hb hg_ hnew_; clear hg_ hnew_; (first | rw [← Ny341.out] at ho4 | (simp only [Int.reduceToNat] at ho4; rw [← Ny341.out] at ho4)); have HO343 := Aside0.mk (Kd.R_lower ho4 (below_size oB)); replace HB := Aside0.mk (below_step oB hb); clear hb ho4) | ((with_reducible refine gate_builtin (b := .append) (xs := #[.tmp 5, .tmp 6]) rfl ?_); at_builtin; refine Kd.R_append_rows (Kd.int .u8) (w0 := w) w.heap.size rfl (.tmp 5) (.tmp 6) 35 5 (.int .u8 0) 1 rfl Try.underlying35 info5 rfl (by decide) (by omega) v342 y341 l0 _ _ _ (fun _ => True) (fun _ => False) rfl rfl ?aO ?aR (fun _ _ h => h) (fun _ h => h.elim) ?aF ?aB ?aS ?aL ?_; (case aR => repeat (first | exact (Kd.C_below HR0.out HB.out) | (with_reducible refine Kd.C_alloc ?_ _) | (with_reducible refine Kd.C_drewN ?_ _) | (with_reducible refine Kd.C_drew ?_))); (case aB => exact oB); (case aF => exact (fun _ _ => trivial)); (case aO => exact (oR HO343)); (case aS => exact (below_size oB)); (case aL => have := LMc2.out; omega); intro v345 w5 ho hb hg hat; rw [← Ny344.out] at ho; have HO346 := Aside0.mk (ho); replace HB := Aside0.mk (hb); clear HO343; clear ho hb hg hat))
  go_ret
  exact ⟨_, oE, oR HO346, oB⟩
 ·rw [if_neg c2] at H
  exact absurd H (by simp)

set_option maxHeartbeats 8000000 in
set_option maxRecDepth 100000 in
theorem slices_Clone_byte_byte.calls (A0 : Option Addr) (c0 : Nat) (l0 : List Int) (r : List Int) (w : World) (hr0 : Kd.C (Kd.int .u8) w A0 l0.length l0) (hc0 : l0.length ≤ c0) (h : slices_Clone_byte_byte.f l0 = some r) :
  Calls Try.prog 131 #[.slice A0 l0.length c0] w fun e w' => ∃ v0_ : Value, e = .returned (v0_) ∧ Kd.R (Kd.int .u8) 5 w' w.heap.size (fun _ => True) v0_ r ∧ Below w.heap.size w w' := by
 rcases A0 with _ | a0_
 ·have hl_ : l0 = [] := by
   rcases Nat.eq_zero_or_pos l0.length with hz_ | hz_
   ·exact List.eq_nil_of_length_eq_zero hz_
   ·obtain ⟨ad_, he_, _⟩ := hr0.2.2 hz_
    cases he_
  subst hl_
  obtain rfl : r = [] := by
   simp [slices_Clone_byte_byte.f] at h
   exact h
  have hq_ := Lib.run_eql_slice_nil (P := Try.prog) w 35 5 none 0 c0 0 0 (by kernel_rfl)
  go_enter Try.func131, Try.ntmps131
  go_wp2
  go_ret
  exact ⟨_, rfl, Kd.R_nil _ _ _ _ _, Below.refl _ _⟩
 ·exact slices_Clone_byte_byte.calls_some a0_ c0 l0 r w hr0 hc0 h

/-! ### slices_Clone_Ent: function 134 -/
def slices_Clone_Ent.f (l0 : List (S83)) : Option ((List (S83))) := (some (([] : List (S83)) : List (S83))).bind fun y347 => (if y347.length + l0.length < 5864062014805 then (some (y347 ++ l0)) else (none))
set_option maxHeartbeats 8000000 in
set_option maxRecDepth 100000 in
theorem slices_Clone_Ent.calls_some (a0_ : Addr) (c0 : Nat) (l0 : List (S83)) (r : List (S83)) (w : World) (hr0 : Kd.C k83 w (some a0_) l0.length l0) (hc0 : l0.length ≤ c0) (h : slices_Clone_Ent.f l0 = some r) :
  Calls Try.prog 134 #[.slice (some a0_) l0.length c0] w fun e w' => ∃ v0_ : Value, e = .returned (v0_) ∧ Kd.R k83 83 w' w.heap.size (fun _ => True) v0_ r ∧ Below w.heap.size w w' := by
 have HR0 := Aside0.mk hr0
 have HC0 := Aside0.mk hc0
 clear hr0 hc0
 have HB := Aside0.mk (Below.refl w.heap.size w)
 unfold slices_Clone_Ent.f at h
 have H := h
 clear h
 obtain ⟨y347, hy347⟩ : ∃ y_ : List (S83), y_ = (([] : List (S83))) := ⟨_, rfl⟩
 replace H : (if y347.length + l0.length < 5864062014805 then (some (y347 ++ l0)) else (none)) = some r := by first | (rw [hy347]; with_reducible exact H) | (have H2_ := (Option.bind_some _ _).symm.trans H; rw [hy347]; with_reducible exact H2_) | (have H2_ := (Option.bind_some _ _).symm.trans H; with_reducible exact H2_) | with_reducible exact H | (rw [hy347]; exact H) | exact H
 have Ny347 := Aside0.mk hy347
 clear hy347
 by_cases c2 : y347.length + l0.length < 5864062014805
 ·rw [if_pos c2] at H
  have LMc2 := Aside0.mk c2
  clear c2
  obtain ⟨y350, hy350⟩ : ∃ y_ : List (S83), y_ = (y347 ++ l0) := ⟨_, rfl⟩
  replace H : (some y350) = some r := by first | (rw [hy350]; with_reducible exact H) | (have H2_ := (Option.bind_some _ _).symm.trans H; rw [hy350]; with_reducible exact H2_) | (have H2_ := (Option.bind_some _ _).symm.trans H; with_reducible exact H2_) | with_reducible exact H | (rw [hy350]; exact H) | exact H
  have Ny350 := Aside0.mk hy350
  clear hy350
  obtain rfl := Option.some.inj H
  have hq_ := Lib.run_eql_slice_nil (P := Try.prog) w 42 83 (some a0_) l0.length c0 0 0 (by kernel_rfl)
  go_enter Try.func134, Try.ntmps134
  go_wp2_with (first | ((with_reducible refine gate_dst (N := 5) rfl ?_); refine Kd.R_lit k83 _ 83 ?hg (N := 5) ?hd (xs := ([] : List (S83))) (inner := []) (ok := fun _ => True) (okp := fun _ => True) ?hr ?hp (fun _ hk => hk) trivial (Below.refl _ _) (Nat.le_refl _) (by simp) ?_; (case hd => rfl); (case hg => rfl); (case hr => first | (go_simp; done) | (go_simp; rfl)); (case hp => exact (Reps.none _ _)); intro v348 w3 ho4 hb hg_ hnew_; clear hg_ hnew_; (first | rw [← Ny347.out] at ho4 | (simp only [Int.reduceToNat] at ho4; rw [← Ny347.out] at ho4)); have HO349 := Aside0.mk (Kd.R_lower ho4 (below_size oB)); replace HB := Aside0.mk (below_step oB hb); clear hb ho4) | ((with_reducible refine gate_builtin (b := .append) (xs := #[.tmp 5, .tmp 6]) rfl ?_); at_builtin; refine Kd.R_append_rows k83 (w0 := w) w.heap.size rfl (.tmp 5) (.tmp 6) 42 83 (.agg #[(.string ⟨#[]⟩), (.int .i64 0)]) 24 rfl Try.underlying42 info83 rfl (by decide) (by omega) v348 y347 l0 _ _ _ (fun _ => True) (fun _ => False) rfl rfl ?aO ?aR (fun _ _ h => h) (fun _ h => h.elim) ?aF ?aB ?aS ?aL ?_; (case aR => repeat (first | exact (Kd.C_below HR0.out HB.out) | (with_reducible refine Kd.C_alloc ?_ _) | (with_reducible refine Kd.C_drewN ?_ _) | (with_reducible refine Kd.C_drew ?_))); (case aB => exact oB); (case aF => exact (fun _ _ => trivial)); (case aO => exact (oR HO349)); (case aS => exact (below_size oB)); (case aL => have := LMc2.out; omega); intro v351 w5 ho hb hg hat; rw [← Ny350.out] at ho; have HO352 := Aside0.mk (ho); replace HB := Aside0.mk (hb); clear HO349; clear ho hb hg hat))
  go_ret
  exact ⟨_, oE, oR HO352, oB⟩
 ·rw [if_neg c2] at H
  exact absurd H (by simp)

set_option maxHeartbeats 8000000 in
set_option maxRecDepth 100000 in
theorem slices_Clone_Ent.calls (A0 : Option Addr) (c0 : Nat) (l0 : List (S83)) (r : List (S83)) (w : World) (hr0 : Kd.C k83 w A0 l0.length l0) (hc0 : l0.length ≤ c0) (h : slices_Clone_Ent.f l0 = some r) :
  Calls Try.prog 134 #[.slice A0 l0.length c0] w fun e w' => ∃ v0_ : Value, e = .returned (v0_) ∧ Kd.R k83 83 w' w.heap.size (fun _ => True) v0_ r ∧ Below w.heap.size w w' := by
 rcases A0 with _ | a0_
 ·have hl_ : l0 = [] := by
   rcases Nat.eq_zero_or_pos l0.length with hz_ | hz_
   ·exact List.eq_nil_of_length_eq_zero hz_
   ·obtain ⟨ad_, he_, _⟩ := hr0.2.2 hz_
    cases he_
  subst hl_
  obtain rfl : r = [] := by
   simp [slices_Clone_Ent.f] at h
   exact h
  have hq_ := Lib.run_eql_slice_nil (P := Try.prog) w 42 83 none 0 c0 0 0 (by kernel_rfl)
  go_enter Try.func134, Try.ntmps134
  go_wp2
  go_ret
  exact ⟨_, rfl, Kd.R_nil _ _ _ _ _, Below.refl _ _⟩
 ·exact slices_Clone_Ent.calls_some a0_ c0 l0 r w hr0 hc0 h

/-! ### slices_Clone_Attr: function 135 -/
def slices_Clone_Attr.f (l0 : List (S85)) : Option ((List (S85))) := (some (([] : List (S85)) : List (S85))).bind fun y353 => (if y353.length + l0.length < 4398046511104 then (some (y353 ++ l0)) else (none))
set_option maxHeartbeats 8000000 in
set_option maxRecDepth 100000 in
theorem slices_Clone_Attr.calls_some (a0_ : Addr) (c0 : Nat) (l0 : List (S85)) (r : List (S85)) (w : World) (hr0 : Kd.C k85 w (some a0_) l0.length l0) (hc0 : l0.length ≤ c0) (h : slices_Clone_Attr.f l0 = some r) :
  Calls Try.prog 135 #[.slice (some a0_) l0.length c0] w fun e w' => ∃ v0_ : Value, e = .returned (v0_) ∧ Kd.R k85 85 w' w.heap.size (fun _ => True) v0_ r ∧ Below w.heap.size w w' := by
 have HR0 := Aside0.mk hr0
 have HC0 := Aside0.mk hc0
 clear hr0 hc0
 have HB := Aside0.mk (Below.refl w.heap.size w)
 unfold slices_Clone_Attr.f at h
 have H := h
 clear h
 obtain ⟨y353, hy353⟩ : ∃ y_ : List (S85), y_ = (([] : List (S85))) := ⟨_, rfl⟩
 replace H : (if y353.length + l0.length < 4398046511104 then (some (y353 ++ l0)) else (none)) = some r := by first | (rw [hy353]; with_reducible exact H) | (have H2_ := (Option.bind_some _ _).symm.trans H; rw [hy353]; with_reducible exact H2_) | (have H2_ := (Option.bind_some _ _).symm.trans H; with_reducible exact H2_) | with_reducible exact H | (rw [hy353]; exact H) | exact H
 have Ny353 := Aside0.mk hy353
 clear hy353
 by_cases c2 : y353.length + l0.length < 4398046511104
 ·rw [if_pos c2] at H
  have LMc2 := Aside0.mk c2
  clear c2
  obtain ⟨y356, hy356⟩ : ∃ y_ : List (S85), y_ = (y353 ++ l0) := ⟨_, rfl⟩
  replace H : (some y356) = some r := by first | (rw [hy356]; with_reducible exact H) | (have H2_ := (Option.bind_some _ _).symm.trans H; rw [hy356]; with_reducible exact H2_) | (have H2_ := (Option.bind_some _ _).symm.trans H; with_reducible exact H2_) | with_reducible exact H | (rw [hy356]; exact H) | exact H
  have Ny356 := Aside0.mk hy356
  clear hy356
  obtain rfl := Option.some.inj H
  have hq_ := Lib.run_eql_slice_nil (P := Try.prog) w 43 85 (some a0_) l0.length c0 0 0 (by kernel_rfl)
  go_enter Try.func135, Try.ntmps135
  go_wp2_with (first | ((with_reducible refine gate_dst (N := 5) rfl ?_); refine Kd.R_lit k85 _ 85 ?hg (N := 5) ?hd (xs := ([] : List (S85))) (inner := []) (ok := fun _ => True) (okp := fun _ => True) ?hr ?hp (fun _ hk => hk) trivial (Below.refl _ _) (Nat.le_refl _) (by simp) ?_; (case hd => rfl); (case hg => rfl); (case hr => first | (go_simp; done) | (go_simp; rfl)); (case hp => exact (Reps.none _ _)); intro v354 w3 ho4 hb hg_ hnew_; clear hg_ hnew_; (first | rw [← Ny353.out] at ho4 | (simp only [Int.reduceToNat] at ho4; rw [← Ny353.out] at ho4)); have HO355 := Aside0.mk (Kd.R_lower ho4 (below_size oB)); replace HB := Aside0.mk (below_step oB hb); clear hb ho4) | ((with_reducible refine gate_builtin (b := .append) (xs := #[.tmp 5, .tmp 6]) rfl ?_); at_builtin; refine Kd.R_append_rows k85 (w0 := w) w.heap.size rfl (.tmp 5) (.tmp 6) 43 85 (.agg #[(.string ⟨#[]⟩), (.string ⟨#[]⟩)]) 32 rfl Try.underlying43 info85 rfl (by decide) (by omega) v354 y353 l0 _ _ _ (fun _ => True) (fun _ => False) rfl rfl ?aO ?aR (fun _ _ h => h) (fun _ h => h.elim) ?aF ?aB ?aS ?aL ?_; (case aR => repeat (first | exact (Kd.C_below HR0.out HB.out) | (with_reducible refine Kd.C_alloc ?_ _) | (with_reducible refine Kd.C_drewN ?_ _) | (with_reducible refine Kd.C_drew ?_))); (case aB => exact oB); (case aF => exact (fun _ _ => trivial)); (case aO => exact (oR HO355)); (case aS => exact (below_size oB)); (case aL => have := LMc2.out; omega); intro v357 w5 ho hb hg hat; rw [← Ny356.out] at ho; have HO358 := Aside0.mk (ho); replace HB := Aside0.mk (hb); clear HO355; clear ho hb hg hat))
  go_ret
  exact ⟨_, oE, oR HO358, oB⟩
 ·rw [if_neg c2] at H
  exact absurd H (by simp)

set_option maxHeartbeats 8000000 in
set_option maxRecDepth 100000 in
theorem slices_Clone_Attr.calls (A0 : Option Addr) (c0 : Nat) (l0 : List (S85)) (r : List (S85)) (w : World) (hr0 : Kd.C k85 w A0 l0.length l0) (hc0 : l0.length ≤ c0) (h : slices_Clone_Attr.f l0 = some r) :
  Calls Try.prog 135 #[.slice A0 l0.length c0] w fun e w' => ∃ v0_ : Value, e = .returned (v0_) ∧ Kd.R k85 85 w' w.heap.size (fun _ => True) v0_ r ∧ Below w.heap.size w w' := by
 rcases A0 with _ | a0_
 ·have hl_ : l0 = [] := by
   rcases Nat.eq_zero_or_pos l0.length with hz_ | hz_
   ·exact List.eq_nil_of_length_eq_zero hz_
   ·obtain ⟨ad_, he_, _⟩ := hr0.2.2 hz_
    cases he_
  subst hl_
  obtain rfl : r = [] := by
   simp [slices_Clone_Attr.f] at h
   exact h
  have hq_ := Lib.run_eql_slice_nil (P := Try.prog) w 43 85 none 0 c0 0 0 (by kernel_rfl)
  go_enter Try.func135, Try.ntmps135
  go_wp2
  go_ret
  exact ⟨_, rfl, Kd.R_nil _ _ _ _ _, Below.refl _ _⟩
 ·exact slices_Clone_Attr.calls_some a0_ c0 l0 r w hr0 hc0 h

/-! ### impl_copyInode: function 104 -/
def impl_copyInode.f (a0_0 : Int) (a0_1 : Int) (a0_2 : Int) (l0_3 : List Int) (l0_4 : List (S83)) (l0_5 : List (S85)) : Option (Int × Int × Int × List Int × (List (S83)) × (List (S85))) := (slices_Clone_byte_byte.f l0_3).bind fun t361 => ((slices_Clone_Ent.f l0_4).bind fun t364 => ((slices_Clone_Attr.f l0_5).bind fun t367 => (some (a0_0, a0_1, a0_2, t361, t364, t367))))
set_option maxHeartbeats 8000000 in
set_option maxRecDepth 100000 in
theorem impl_copyInode.calls (a0_0 : Int) (a0_1 : Int) (a0_2 : Int) (A0_3 : Option Addr) (c0_3 : Nat) (l0_3 : List Int) (A0_4 : Option Addr) (c0_4 : Nat) (l0_4 : List (S83)) (A0_5 : Option Addr) (c0_5 : Nat) (l0_5 : List (S85)) (r1 : Int) (r2 : Int) (r3 : Int) (r4 : List Int) (r5 : List (S83)) (r6 : List (S85)) (w : World) (hr0_3 : Kd.C (Kd.int .u8) w A0_3 l0_3.length l0_3) (hc0_3 : l0_3.length ≤ c0_3) (hr0_4 : Kd.C k83 w A0_4 l0_4.length l0_4) (hc0_4 : l0_4.length ≤ c0_4) (hr0_5 : Kd.C k85 w A0_5 l0_5.length l0_5) (hc0_5 : l0_5.length ≤ c0_5) (h : impl_copyInode.f a0_0 a0_1 a0_2 l0_3 l0_4 l0_5 = some (r1, r2, r3, r4, r5, r6)) :
  Calls Try.prog 104 #[.agg #[.int .i64 a0_0, .int .i64 a0_1, .int .i64 a0_2, .slice A0_3 l0_3.length c0_3, .slice A0_4 l0_4.length c0_4, .slice A0_5 l0_5.length c0_5]] w fun e w' => ∃ v3_ v4_ v5_ : Value, e = .returned (.agg #[.int .i64 r1, .int .i64 r2, .int .i64 r3, v3_, v4_, v5_]) ∧ Kd.R (Kd.int .u8) 5 w' w.heap.size (fun _ => True) v3_ r4 ∧ Kd.R k83 83 w' w.heap.size (fun _ => True) v4_ r5 ∧ Kd.R k85 85 w' w.heap.size (fun _ => True) v5_ r6 ∧ Below w.heap.size w w' := by
 have hu45 := Try.underlying45
 have HR0_3 := Aside0.mk hr0_3
 have HC0_3 := Aside0.mk hc0_3
 clear hr0_3 hc0_3
 have HR0_4 := Aside0.mk hr0_4
 have HC0_4 := Aside0.mk hc0_4
 clear hr0_4 hc0_4
 have HR0_5 := Aside0.mk hr0_5
 have HC0_5 := Aside0.mk hc0_5
 clear hr0_5 hc0_5
 have HB := Aside0.mk (Below.refl w.heap.size w)
 unfold impl_copyInode.f at h
 have H := h
 clear h
 replace H := bA H
 obtain ⟨t361, A2, H⟩ := H
 try dsimp only at H
 replace H := bA H
 obtain ⟨t364, A3, H⟩ := H
 try dsimp only at H
 replace H := bA H
 obtain ⟨t367, A4, H⟩ := H
 try dsimp only at H
 simp only [Option.some.injEq, Prod.mk.injEq] at H
 obtain ⟨rfl, rfl, rfl, rfl, rfl, rfl⟩ := H
 go_enter Try.func104, Try.ntmps104
 go_wp2_with (first | ((with_reducible refine gate_dst (N := 1) rfl ?_); refine bx_ 1 #[.int .i64 a0_0, .int .i64 a0_1, .int .i64 a0_2, .slice A0_3 l0_3.length c0_3, .slice A0_4 l0_4.length c0_4, .slice A0_5 l0_5.length c0_5] 45 ?_; intro gb359 hg w5 hbox hb; have BK359 := Aside0.mk (hbox); have GW359 := gs_ hg; have GE359 := gs_ hg; replace HB := Aside0.mk (below_step oB hb); clear hb hbox hg) | ((with_reducible refine gate_dst (N := 2) rfl ?_); refine bx_ 2 #[.int .i64 0, .int .i64 0, .int .i64 0, .slice none 0 0, .slice none 0 0, .slice none 0 0] 45 ?_; intro gb360 hg w6 hbox hb; have BK360 := Aside0.mk (hbox); have GW360 := gs_ hg; have GE360 := gs_ hg; have NB359_360 := nl_ hg BK359; have NB360_359 := nr_ hg BK359; replace BK359 := kb_ BK359 hb; replace HB := Aside0.mk (below_step oB hb); clear hb hbox hg; have hnb7 := NB359_360.out; have hnc7 := NB360_359.out; obtain ⟨⟨_, _, _, _, _, _⟩, _, _, _, _, _, _⟩ := z6 BK359) | ((with_reducible refine gate_callee (f := 131) rfl ?_); refine gl_ 5 Try.func131 (slices_Clone_byte_byte.calls _ _ l0_3 t361 _ (kC HR0_3) HC0_3.out A2.out) ?_; rintro e w9 ⟨v362, rfl, ho0, hb⟩; refine ⟨_, rfl, ?_⟩; have HO363 := Aside0.mk (Kd.R_lower ho0 (below_size oB)); replace BK359 := kb_ BK359 hb; replace BK360 := kb_ BK360 hb; replace HB := Aside0.mk (below_step oB hb); obtain ⟨Ao10, co10, eo10⟩ := Kd.R_slice HO363.out; subst eo10; obtain ⟨⟨_, _, _, _, _, _⟩, _, _, _, _, _, _⟩ := z6 BK359) | ((with_reducible refine gate_callee (f := 134) rfl ?_); refine gl_ 9 Try.func134 (slices_Clone_Ent.calls _ _ l0_4 t364 _ ?side1 HC0_4.out A3.out) ?_; (case side1 => exact Kd.C_below HR0_4.out oB); rintro e w12 ⟨v365, rfl, ho0, hb⟩; refine ⟨_, rfl, ?_⟩; have HO366 := Aside0.mk (Kd.R_lower ho0 (below_size oB)); replace HO363 := Aside0.mk (Kd.R_below (by (with_reducible repeat (first | apply Kd.R_alloc | apply Kd.R_drewN | apply Kd.R_drew)); exact (Kd.R_mono (Kd.R_far (p := ⟨gb359, 3, none⟩) (Kd.R_types HO363.out BK359.out (by decide)) (fun _ hk => hk.2) (.slice Ao10 t361.length co10)) (fun _ h_ => h_.1))) hb); replace BK359 := Aside0.mk (blk_below (g := gb359) (o := .cells #[.int .i64 a0_0, .int .i64 a0_1, .int .i64 a0_2, .slice Ao10 t361.length co10, .slice A0_4 l0_4.length c0_4, .slice A0_5 l0_5.length c0_5] 45 (0, 0)) (by (with_reducible repeat (first | refine blk_drewN ?_ _ | refine blk_drew ?_ | refine blk_alloc ?_ _)); refine blk_put (cs := #[.int .i64 a0_0, .int .i64 a0_1, .int .i64 a0_2, .slice A0_3 l0_3.length c0_3, .slice A0_4 l0_4.length c0_4, .slice A0_5 l0_5.length c0_5]) ?_ 3 _ rfl; (with_reducible repeat (first | refine blk_drewN ?_ _ | refine blk_drew ?_ | refine blk_alloc ?_ _)); exact BK359.out) hb); replace BK360 := Aside0.mk (blk_below (g := gb360) (o := .cells #[.int .i64 0, .int .i64 0, .int .i64 0, .slice none 0 0, .slice none 0 0, .slice none 0 0] 45 (0, 0)) (by (with_reducible repeat (first | refine blk_drewN ?_ _ | refine blk_drew ?_ | refine blk_alloc ?_ _)); refine blk_far ?_ NB360_359.out _; (with_reducible repeat (first | refine blk_drewN ?_ _ | refine blk_drew ?_ | refine blk_alloc ?_ _)); exact BK360.out) hb); replace HB := Aside0.mk (below_step oB hb); (try clear hk); obtain ⟨Ao13, co13, eo13⟩ := Kd.R_slice HO366.out; subst eo13; obtain ⟨⟨_, _, _, _, _, _⟩, _, _, _, _, _, _⟩ := z6 BK359) | ((with_reducible refine gate_callee (f := 135) rfl ?_); refine gl_ 13 Try.func135 (slices_Clone_Attr.calls _ _ l0_5 t367 _ ?side1 HC0_5.out A4.out) ?_; (case side1 => exact Kd.C_below HR0_5.out oB); rintro e w15 ⟨v368, rfl, ho0, hb⟩; refine ⟨_, rfl, ?_⟩; have HO369 := Aside0.mk (Kd.R_lower ho0 (below_size oB)); replace HO363 := Aside0.mk (Kd.R_below (by (with_reducible repeat (first | apply Kd.R_alloc | apply Kd.R_drewN | apply Kd.R_drew)); exact (Kd.R_mono (Kd.R_far (p := ⟨gb359, 4, none⟩) (Kd.R_types HO363.out BK359.out (by decide)) (fun _ hk => hk.2) (.slice Ao13 t364.length co13)) (fun _ h_ => h_.1))) hb); replace HO366 := Aside0.mk (Kd.R_below (by (with_reducible repeat (first | apply Kd.R_alloc | apply Kd.R_drewN | apply Kd.R_drew)); exact (Kd.R_mono (Kd.R_far (p := ⟨gb359, 4, none⟩) (Kd.R_types HO366.out BK359.out (by decide)) (fun _ hk => hk.2) (.slice Ao13 t364.length co13)) (fun _ h_ => h_.1))) hb); replace BK359 := Aside0.mk (blk_below (g := gb359) (o := .cells #[.int .i64 a0_0, .int .i64 a0_1, .int .i64 a0_2, .slice Ao10 t361.length co10, .slice Ao13 t364.length co13, .slice A0_5 l0_5.length c0_5] 45 (0, 0)) (by (with_reducible repeat (first | refine blk_drewN ?_ _ | refine blk_drew ?_ | refine blk_alloc ?_ _)); refine blk_put (cs := #[.int .i64 a0_0, .int .i64 a0_1, .int .i64 a0_2, .slice Ao10 t361.length co10, .slice A0_4 l0_4.length c0_4, .slice A0_5 l0_5.length c0_5]) ?_ 4 _ rfl; (with_reducible repeat (first | refine blk_drewN ?_ _ | refine blk_drew ?_ | refine blk_alloc ?_ _)); exact BK359.out) hb); replace BK360 := Aside0.mk (blk_below (g := gb360) (o := .cells #[.int .i64 0, .int .i64 0, .int .i64 0, .slice none 0 0, .slice none 0 0, .slice none 0 0] 45 (0, 0)) (by (with_reducible repeat (first | refine blk_drewN ?_ _ | refine blk_drew ?_ | refine blk_alloc ?_ _)); refine blk_far ?_ NB360_359.out _; (with_reducible repeat (first | refine blk_drewN ?_ _ | refine blk_drew ?_ | refine blk_alloc ?_ _)); exact BK360.out) hb); replace HB := Aside0.mk (below_step oB hb); (try clear hk); obtain ⟨Ao16, co16, eo16⟩ := Kd.R_slice HO369.out; subst eo16; obtain ⟨⟨_, _, _, _, _, _⟩, _, _, _, _, _, _⟩ := z6 BK359; obtain ⟨⟨_, _, _, _, _, _⟩, _, _, _, _, _, _⟩ := z6 BK360))
 refine bodyPost_ret (results_cell_row rfl _ _ gb360 45 #[.int .i64 a0_0, .int .i64 a0_1, .int .i64 a0_2, .slice Ao10 t361.length co10, .slice Ao13 t364.length co13, .slice Ao16 t367.length co16] (0, 0) _ rfl (by (with_reducible repeat (first | refine blk_drewN ?_ _ | refine blk_drew ?_ | refine blk_alloc ?_ _)); refine blk_put (cs := #[.int .i64 a0_0, .int .i64 a0_1, .int .i64 a0_2, .slice Ao10 t361.length co10, .slice Ao13 t364.length co13, .slice none 0 0]) ?_ 5 _ rfl; (with_reducible repeat (first | refine blk_drewN ?_ _ | refine blk_drew ?_ | refine blk_alloc ?_ _)); refine blk_put (cs := #[.int .i64 a0_0, .int .i64 a0_1, .int .i64 a0_2, .slice Ao10 t361.length co10, .slice none 0 0, .slice none 0 0]) ?_ 4 _ rfl; (with_reducible repeat (first | refine blk_drewN ?_ _ | refine blk_drew ?_ | refine blk_alloc ?_ _)); refine blk_put (cs := #[.int .i64 a0_0, .int .i64 a0_1, .int .i64 a0_2, .slice none 0 0, .slice none 0 0, .slice none 0 0]) ?_ 3 _ rfl; (with_reducible repeat (first | refine blk_drewN ?_ _ | refine blk_drew ?_ | refine blk_alloc ?_ _)); refine blk_put (cs := #[.int .i64 a0_0, .int .i64 a0_1, .int .i64 0, .slice none 0 0, .slice none 0 0, .slice none 0 0]) ?_ 2 _ rfl; (with_reducible repeat (first | refine blk_drewN ?_ _ | refine blk_drew ?_ | refine blk_alloc ?_ _)); refine blk_put (cs := #[.int .i64 a0_0, .int .i64 0, .int .i64 0, .slice none 0 0, .slice none 0 0, .slice none 0 0]) ?_ 1 _ rfl; (with_reducible repeat (first | refine blk_drewN ?_ _ | refine blk_drew ?_ | refine blk_alloc ?_ _)); refine blk_put (cs := #[.int .i64 0, .int .i64 0, .int .i64 0, .slice none 0 0, .slice none 0 0, .slice none 0 0]) ?_ 0 _ rfl; (with_reducible repeat (first | refine blk_drewN ?_ _ | refine blk_drew ?_ | refine blk_alloc ?_ _)); refine blk_far ?_ NB360_359.out _; (with_reducible repeat (first | refine blk_drewN ?_ _ | refine blk_drew ?_ | refine blk_alloc ?_ _)); exact BK360.out) Try.underlying45 rfl (by kernel_rfl)) rfl ?_
 exact ⟨_, _, _, oE, by (with_reducible repeat (first | apply Kd.R_alloc | apply Kd.R_drewN | apply Kd.R_drew)); exact Kd.R_mono (Kd.R_far (p := ⟨gb360, 5, none⟩) (Kd.R_far (p := ⟨gb360, 4, none⟩) (Kd.R_far (p := ⟨gb360, 3, none⟩) (Kd.R_far (p := ⟨gb360, 2, none⟩) (Kd.R_far (p := ⟨gb360, 1, none⟩) (Kd.R_far (p := ⟨gb360, 0, none⟩) (Kd.R_far (p := ⟨gb359, 5, none⟩) (Kd.R_types (Kd.R_types HO363.out BK359.out (by decide)) BK360.out (by decide)) (fun _ hk => hk.1.2) (.slice Ao16 t367.length co16)) (fun _ hk => hk.2) (.int .i64 a0_0)) (fun _ hk => hk.2) (.int .i64 a0_1)) (fun _ hk => hk.2) (.int .i64 a0_2)) (fun _ hk => hk.2) (.slice Ao10 t361.length co10)) (fun _ hk => hk.2) (.slice Ao13 t364.length co13)) (fun _ hk => hk.2) (.slice Ao16 t367.length co16)) (fun _ hk => trivial), by (with_reducible repeat (first | apply Kd.R_alloc | apply Kd.R_drewN | apply Kd.R_drew)); exact Kd.R_mono (Kd.R_far (p := ⟨gb360, 5, none⟩) (Kd.R_far (p := ⟨gb360, 4, none⟩) (Kd.R_far (p := ⟨gb360, 3, none⟩) (Kd.R_far (p := ⟨gb360, 2, none⟩) (Kd.R_far (p := ⟨gb360, 1, none⟩) (Kd.R_far (p := ⟨gb360, 0, none⟩) (Kd.R_far (p := ⟨gb359, 5, none⟩) (Kd.R_types (Kd.R_types HO366.out BK359.out (by decide)) BK360.out (by decide)) (fun _ hk => hk.1.2) (.slice Ao16 t367.length co16)) (fun _ hk => hk.2) (.int .i64 a0_0)) (fun _ hk => hk.2) (.int .i64 a0_1)) (fun _ hk => hk.2) (.int .i64 a0_2)) (fun _ hk => hk.2) (.slice Ao10 t361.length co10)) (fun _ hk => hk.2) (.slice Ao13 t364.length co13)) (fun _ hk => hk.2) (.slice Ao16 t367.length co16)) (fun _ hk => trivial), by (with_reducible repeat (first | apply Kd.R_alloc | apply Kd.R_drewN | apply Kd.R_drew)); exact Kd.R_mono (Kd.R_far (p := ⟨gb360, 5, none⟩) (Kd.R_far (p := ⟨gb360, 4, none⟩) (Kd.R_far (p := ⟨gb360, 3, none⟩) (Kd.R_far (p := ⟨gb360, 2, none⟩) (Kd.R_far (p := ⟨gb360, 1, none⟩) (Kd.R_far (p := ⟨gb360, 0, none⟩) (Kd.R_far (p := ⟨gb359, 5, none⟩) (Kd.R_types (Kd.R_types HO369.out BK359.out (by decide)) BK360.out (by decide)) (fun _ hk => hk.1.2) (.slice Ao16 t367.length co16)) (fun _ hk => hk.2) (.int .i64 a0_0)) (fun _ hk => hk.2) (.int .i64 a0_1)) (fun _ hk => hk.2) (.int .i64 a0_2)) (fun _ hk => hk.2) (.slice Ao10 t361.length co10)) (fun _ hk => hk.2) (.slice Ao13 t364.length co13)) (fun _ hk => hk.2) (.slice Ao16 t367.length co16)) (fun _ hk => trivial), oB⟩

end Go.Proofs.Ytkknehgaebhbeaa.P
