-- By this session's own program (wip/myprint.py) out of the translation; Lean checks it.
import Derived.Test.YtkfcmpalbhmmaaaDoorPx0
import Derived.Test.YtkfcmpalbhmmaaaDoorPx1
import Derived.Test.YtkfcmpalbhmmaaaDoorPx2
import Derived.Test.YtkfcmpalbhmmaaaDoorPx3
import Derived.Test.YtkfcmpalbhmmaaaDoorPx4
namespace Go.Proofs.YtkfcmpalbhmmaaaDoor.P
open Go.RowKit Go.Proofs.YtkfcmpalbhmmaaaDoorW.PrintWords Go.Proofs.YtkfcmpalbhmmaaaDoorW.PrintLast Go.Proofs.YtkfcmpalbhmmaaaDoorW.PrintMore
attribute [local go_sem] max2_int min2_int max_two min_two max_three min_three max_four min_four   -- for this text's walks alone
set_option linter.unusedVariables false
set_option linter.unusedSimpArgs false

/-! ### laws_heldAttrS: function 78 -/
def laws_heldAttrS.l0 : Nat → List (S87) → Int → Int → Option (Int)
 | 0, _, _, _ => none
 | k + 1, x0, x1, x5 => if x5 < (x0.length : Int) then (if 0 ≤ x5 then ((laws_markText.f k x1).bind fun t415 => (if ((rd_T87 x0 x5).f0).toList = t415.toList then ((laws_markText.f k (wrap64 (x1 + 1))).bind fun t417 => (if ((rd_T87 x0 x5).f1).toList = t417.toList then (laws_heldAttrS.l0 k x0 (wrap64 ((wrap64 (x1 + 1)) + 1)) (wrap64 (x5 + 1))) else (some (-1)))) else (some (-1)))) else (none)) else (some x1)
def laws_heldAttrS.f (k : Nat) (l0 : List (S87)) (a1 : Int) : Option (Int) := laws_heldAttrS.l0 k l0 a1 0
def laws_heldAttrS.T4 : Bool × List (List Nat × List Nat) := (true, [([], []), ([], []), ([0, 1], [0, 1]), ([2], [2]), ([3], [3]), ([], []), ([5], [5]), ([4, 6], [4, 6])])
def laws_heldAttrS.B4 : List Nat := [0, 0, 3, 7, 15, 0, 32, 127]
theorem laws_heldAttrS.tab4 : rtab .any (opsOf Tryd.f78 4) = laws_heldAttrS.T4 := by kernel_rfl
theorem laws_heldAttrS.bits4 : waitsOk laws_heldAttrS.T4.2 laws_heldAttrS.B4 = true := by kernel_rfl
def laws_heldAttrS.T7 : Bool × List (List Nat × List Nat) := (true, [([], []), ([], []), ([0, 1], [0, 1]), ([2], [2]), ([3], [3]), ([], []), ([5], [5]), ([4, 6], [4, 6])])
def laws_heldAttrS.B7 : List Nat := [0, 0, 3, 7, 15, 0, 32, 127]
theorem laws_heldAttrS.tab7 : rtab .any (opsOf Tryd.f78 7) = laws_heldAttrS.T7 := by kernel_rfl
theorem laws_heldAttrS.bits7 : waitsOk laws_heldAttrS.T7.2 laws_heldAttrS.B7 = true := by kernel_rfl
set_option maxHeartbeats 8000000 in
set_option maxRecDepth 100000 in
theorem laws_heldAttrS.calls (k : Nat) (A0 : Option Addr) (c0 : Nat) (l0 : List (S87)) (a1 : Int) (r : Int) (w : World) (hr0 : Kd.C k87 w A0 l0.length l0) (hc0 : l0.length ≤ c0) (h : laws_heldAttrS.f k l0 a1 = some r) :
  Calls Tryd.prog 78 #[.slice A0 l0.length c0, .int .i64 a1] w fun e w' => e = .returned (.int .i64 r) ∧ Below w.heap.size w w' := by
 have HR0 := Aside0.mk hr0
 have HC0 := Aside0.mk hc0
 clear hr0 hc0
 have HB := Aside0.mk (Below.refl w.heap.size w)
 unfold laws_heldAttrS.f at h
 have H := h
 clear h
 have H' := Aside0.mk H
 clear H
 go_enter Tryd.func78, Tryd.ntmps78
 go_wp2
 go_loopg [1, 5] k (fun kq v1 v5 w' => ∃ (x1_1 : Int) (x5_1 : Int), v1 = .int .i64 x1_1 ∧ v5 = .int .i64 x5_1 ∧ Aside0 (laws_heldAttrS.l0 kq l0 x1_1 x5_1 = some r) ∧ Aside0 (kq ≤ k) ∧ Aside0 (Below w.heap.size w w'))
 case atStart => exact ⟨(a1), (0), oS, oS, H', ⟨Nat.le_refl _⟩, ⟨oB⟩⟩
 case round =>
  clear H'
  obtain ⟨x1_1, x5_1, rfl, rfl, HA, HK1, HB⟩ := hrel
  cases gk with
  | zero => exact absurd HA.out (by simp [laws_heldAttrS.l0])
  | succ k1 =>
   have H := HA.out
   clear HA
   simp only [laws_heldAttrS.l0] at H
   replace H := itD H
   rcases H with ⟨c3b0, H⟩ | ⟨c3b0, H⟩
   ·replace H := itD H
    rcases H with ⟨c4b0, H⟩ | ⟨c4b0, H⟩
    ·replace H := bA H
     obtain ⟨t415, A5, H⟩ := H
     try dsimp only at H
     by_cases c6 : ((rd_T87 l0 x5_1).f0).toList = t415.toList
     ·rw [if_pos c6] at H
      have c6b0 : (((rd_T87 l0 x5_1).f0).toList == t415.toList) = true := beq_iff_eq.mpr c6
      have c6b1 : (((rd_T87 l0 x5_1).f0).toList != t415.toList) = false := bne_eq_false_iff_eq.mpr c6
      clear c6
      replace H := bA H
      obtain ⟨t417, A7, H⟩ := H
      try dsimp only at H
      by_cases c8 : ((rd_T87 l0 x5_1).f1).toList = t417.toList
      ·rw [if_pos c8] at H
       have c8b0 : (((rd_T87 l0 x5_1).f1).toList == t417.toList) = true := beq_iff_eq.mpr c8
       have c8b1 : (((rd_T87 l0 x5_1).f1).toList != t417.toList) = false := bne_eq_false_iff_eq.mpr c8
       clear c8
       have H' := Aside0.mk H
       clear H
       try go_wp2
       replace HB := Aside0.mk (below_drew1 HB.out)
       have p414 : (0 ≤ (x5_1 : Int)) = True := oT
       have q414 : (x5_1 < (l0.length : Int)) = True := oT
       obtain ⟨ad414, e414, hx414_0, hx414_1⟩ := at_T87 HR0.out x5_1 oa oa
       have hw414_1 := hx414_1
       have hw414_0 := hx414_0
       cases e414
       replace hx414_0 := cB HB hx414_0
       replace hx414_1 := cB HB hx414_1
       refine st_ 8 (fun w' => w'.cell? (ad414.add ((x5_1).toNat * 2)) = some (.string ((rd_T87 l0 x5_1).f0)) ∧ w'.cell? ⟨(ad414.add ((x5_1).toNat * 2)).block, (ad414.add ((x5_1).toNat * 2)).off + 1, none⟩ = some (.string ((rd_T87 l0 x5_1).f1))) laws_heldAttrS.tab4 laws_heldAttrS.bits4 oH (fun hHeld HT_ HW_ => ?_)
       generalize wr.drew = w9 at HB hx414_0 hx414_1 hHeld ⊢
       refine pu_ 0 12 HT_ ?_
       refine pu_ 1 13 HT_ ?_
       refine pu_ 2 14 HT_ ?_
       refine pu_ 3 15 HT_ ?_
       refine pu_ 5 17 HT_ ?_
       refine ta_ 4 16 HT_ HW_ hHeld ?_
       refine on_ 6 18 HT_ (fun K hK => ?_)
       refine gr_ 18 Tryd.func56 (laws_markText.calls k1 x1_1 t415 _ A5.out) ?_
       rintro e w10 ⟨rfl, hb⟩
       refine ⟨_, rfl, ?_⟩
       replace HB := Aside0.mk (below_step oB hb)
       refine hk_ hK 18 oH (fun hHeld => ?_)
       clear hK K
       refine pu_ 7 19 HT_ ?_
       refine dn_ HT_ ?_
       try go_wp2
       replace HB := Aside0.mk (below_drew1 HB.out)
       have p416 : (0 ≤ (x5_1 : Int)) = True := oT
       have q416 : (x5_1 < (l0.length : Int)) = True := oT
       obtain ⟨ad416, e416, hx416_0, hx416_1⟩ := at_T87 HR0.out x5_1 oa oa
       have hw416_1 := hx416_1
       have hw416_0 := hx416_0
       obtain rfl : ad414 = ad416 := (by injection e416)
       replace hx416_0 := cB HB hx416_0
       replace hx416_1 := cB HB hx416_1
       refine st_ 8 (fun w' => w'.cell? (ad414.add ((x5_1).toNat * 2)) = some (.string ((rd_T87 l0 x5_1).f0)) ∧ w'.cell? ⟨(ad414.add ((x5_1).toNat * 2)).block, (ad414.add ((x5_1).toNat * 2)).off + 1, none⟩ = some (.string ((rd_T87 l0 x5_1).f1))) laws_heldAttrS.tab7 laws_heldAttrS.bits7 oH (fun hHeld HT_ HW_ => ?_)
       generalize w10.drew = w11 at HB hx416_0 hx416_1 hHeld ⊢
       refine pu_ 0 22 HT_ ?_
       refine pu_ 1 23 HT_ ?_
       refine pu_ 2 24 HT_ ?_
       refine pu_ 3 25 HT_ ?_
       refine pu_ 5 27 HT_ ?_
       refine ta_ 4 26 HT_ HW_ hHeld ?_
       refine on_ 6 28 HT_ (fun K hK => ?_)
       refine gr_ 28 Tryd.func56 (laws_markText.calls k1 (wrap64 (x1_1 + 1)) t417 _ A7.out) ?_
       rintro e w12 ⟨rfl, hb⟩
       refine ⟨_, rfl, ?_⟩
       replace HB := Aside0.mk (below_step oB hb)
       refine hk_ hK 28 oH (fun hHeld => ?_)
       clear hK K
       refine pu_ 7 29 HT_ ?_
       refine dn_ HT_ ?_
       try go_wp2
       go_roundg k1
       case measure => have := HK1.out; omega
       case rel => exact ⟨(wrap64 ((wrap64 (x1_1 + 1)) + 1)), (wrap64 (x5_1 + 1)), oS, oS, H', ⟨by have := HK1.out; omega⟩, ⟨oB⟩⟩
      ·rw [if_neg c8] at H
       have c8b0 : (((rd_T87 l0 x5_1).f1).toList == t417.toList) = false := beq_eq_false_iff_ne.mpr c8
       have c8b1 : (((rd_T87 l0 x5_1).f1).toList != t417.toList) = true := bne_iff_ne.mpr c8
       obtain rfl := Option.some.inj H
       try go_wp2
       replace HB := Aside0.mk (below_drew1 HB.out)
       have p414 : (0 ≤ (x5_1 : Int)) = True := oT
       have q414 : (x5_1 < (l0.length : Int)) = True := oT
       obtain ⟨ad414, e414, hx414_0, hx414_1⟩ := at_T87 HR0.out x5_1 oa oa
       have hw414_1 := hx414_1
       have hw414_0 := hx414_0
       cases e414
       replace hx414_0 := cB HB hx414_0
       replace hx414_1 := cB HB hx414_1
       refine st_ 8 (fun w' => w'.cell? (ad414.add ((x5_1).toNat * 2)) = some (.string ((rd_T87 l0 x5_1).f0)) ∧ w'.cell? ⟨(ad414.add ((x5_1).toNat * 2)).block, (ad414.add ((x5_1).toNat * 2)).off + 1, none⟩ = some (.string ((rd_T87 l0 x5_1).f1))) laws_heldAttrS.tab4 laws_heldAttrS.bits4 oH (fun hHeld HT_ HW_ => ?_)
       generalize wr.drew = w13 at HB hx414_0 hx414_1 hHeld ⊢
       refine pu_ 0 12 HT_ ?_
       refine pu_ 1 13 HT_ ?_
       refine pu_ 2 14 HT_ ?_
       refine pu_ 3 15 HT_ ?_
       refine pu_ 5 17 HT_ ?_
       refine ta_ 4 16 HT_ HW_ hHeld ?_
       refine on_ 6 18 HT_ (fun K hK => ?_)
       refine gr_ 18 Tryd.func56 (laws_markText.calls k1 x1_1 t415 _ A5.out) ?_
       rintro e w14 ⟨rfl, hb⟩
       refine ⟨_, rfl, ?_⟩
       replace HB := Aside0.mk (below_step oB hb)
       refine hk_ hK 18 oH (fun hHeld => ?_)
       clear hK K
       refine pu_ 7 19 HT_ ?_
       refine dn_ HT_ ?_
       try go_wp2
       replace HB := Aside0.mk (below_drew1 HB.out)
       have p416 : (0 ≤ (x5_1 : Int)) = True := oT
       have q416 : (x5_1 < (l0.length : Int)) = True := oT
       obtain ⟨ad416, e416, hx416_0, hx416_1⟩ := at_T87 HR0.out x5_1 oa oa
       have hw416_1 := hx416_1
       have hw416_0 := hx416_0
       obtain rfl : ad414 = ad416 := (by injection e416)
       replace hx416_0 := cB HB hx416_0
       replace hx416_1 := cB HB hx416_1
       refine st_ 8 (fun w' => w'.cell? (ad414.add ((x5_1).toNat * 2)) = some (.string ((rd_T87 l0 x5_1).f0)) ∧ w'.cell? ⟨(ad414.add ((x5_1).toNat * 2)).block, (ad414.add ((x5_1).toNat * 2)).off + 1, none⟩ = some (.string ((rd_T87 l0 x5_1).f1))) laws_heldAttrS.tab7 laws_heldAttrS.bits7 oH (fun hHeld HT_ HW_ => ?_)
       generalize w14.drew = w15 at HB hx416_0 hx416_1 hHeld ⊢
       refine pu_ 0 22 HT_ ?_
       refine pu_ 1 23 HT_ ?_
       refine pu_ 2 24 HT_ ?_
       refine pu_ 3 25 HT_ ?_
       refine pu_ 5 27 HT_ ?_
       refine ta_ 4 26 HT_ HW_ hHeld ?_
       refine on_ 6 28 HT_ (fun K hK => ?_)
       refine gr_ 28 Tryd.func56 (laws_markText.calls k1 (wrap64 (x1_1 + 1)) t417 _ A7.out) ?_
       rintro e w16 ⟨rfl, hb⟩
       refine ⟨_, rfl, ?_⟩
       replace HB := Aside0.mk (below_step oB hb)
       refine hk_ hK 28 oH (fun hHeld => ?_)
       clear hK K
       refine pu_ 7 29 HT_ ?_
       refine dn_ HT_ ?_
       try go_wp2
       go_ret
       exact ⟨oE, oB⟩
     ·rw [if_neg c6] at H
      have c6b0 : (((rd_T87 l0 x5_1).f0).toList == t415.toList) = false := beq_eq_false_iff_ne.mpr c6
      have c6b1 : (((rd_T87 l0 x5_1).f0).toList != t415.toList) = true := bne_iff_ne.mpr c6
      obtain rfl := Option.some.inj H
      try go_wp2
      replace HB := Aside0.mk (below_drew1 HB.out)
      have p414 : (0 ≤ (x5_1 : Int)) = True := oT
      have q414 : (x5_1 < (l0.length : Int)) = True := oT
      obtain ⟨ad414, e414, hx414_0, hx414_1⟩ := at_T87 HR0.out x5_1 oa oa
      have hw414_1 := hx414_1
      have hw414_0 := hx414_0
      cases e414
      replace hx414_0 := cB HB hx414_0
      replace hx414_1 := cB HB hx414_1
      refine st_ 8 (fun w' => w'.cell? (ad414.add ((x5_1).toNat * 2)) = some (.string ((rd_T87 l0 x5_1).f0)) ∧ w'.cell? ⟨(ad414.add ((x5_1).toNat * 2)).block, (ad414.add ((x5_1).toNat * 2)).off + 1, none⟩ = some (.string ((rd_T87 l0 x5_1).f1))) laws_heldAttrS.tab4 laws_heldAttrS.bits4 oH (fun hHeld HT_ HW_ => ?_)
      generalize wr.drew = w17 at HB hx414_0 hx414_1 hHeld ⊢
      refine pu_ 0 12 HT_ ?_
      refine pu_ 1 13 HT_ ?_
      refine pu_ 2 14 HT_ ?_
      refine pu_ 3 15 HT_ ?_
      refine pu_ 5 17 HT_ ?_
      refine ta_ 4 16 HT_ HW_ hHeld ?_
      refine on_ 6 18 HT_ (fun K hK => ?_)
      refine gr_ 18 Tryd.func56 (laws_markText.calls k1 x1_1 t415 _ A5.out) ?_
      rintro e w18 ⟨rfl, hb⟩
      refine ⟨_, rfl, ?_⟩
      replace HB := Aside0.mk (below_step oB hb)
      refine hk_ hK 18 oH (fun hHeld => ?_)
      clear hK K
      refine pu_ 7 19 HT_ ?_
      refine dn_ HT_ ?_
      try go_wp2
      go_ret
      exact ⟨oE, oB⟩
    ·cases H
   ·obtain rfl := Option.some.inj H
    go_wp2
    go_ret
    exact ⟨oE, oB⟩

/-! ### laws_heldInode: function 51 -/
def laws_heldInode.f (k : Nat) (a0_0 : Int) (a0_1 : Int) (a0_2 : Int) (l0_3 : List Int) (l0_4 : List (S91)) (l0_5 : List (S87)) (a1 : Int) : Option (Int) := (laws_heldByteS.f k l0_3 a1).bind fun t419 => (if t419 < 0 then (some (-1)) else ((laws_heldEntS.f k l0_4 t419).bind fun t420 => (if t420 < 0 then (some (-1)) else ((laws_heldAttrS.f k l0_5 t420).bind fun t421 => (if t421 < 0 then (some (-1)) else (some t421))))))
set_option maxHeartbeats 8000000 in
set_option maxRecDepth 100000 in
theorem laws_heldInode.calls (k : Nat) (a0_0 : Int) (a0_1 : Int) (a0_2 : Int) (A0_3 : Option Addr) (c0_3 : Nat) (l0_3 : List Int) (A0_4 : Option Addr) (c0_4 : Nat) (l0_4 : List (S91)) (A0_5 : Option Addr) (c0_5 : Nat) (l0_5 : List (S87)) (a1 : Int) (r : Int) (w : World) (hr0_3 : Kd.C (Kd.int .u8) w A0_3 l0_3.length l0_3) (hc0_3 : l0_3.length ≤ c0_3) (hr0_4 : Kd.C k91 w A0_4 l0_4.length l0_4) (hc0_4 : l0_4.length ≤ c0_4) (hr0_5 : Kd.C k87 w A0_5 l0_5.length l0_5) (hc0_5 : l0_5.length ≤ c0_5) (h : laws_heldInode.f k a0_0 a0_1 a0_2 l0_3 l0_4 l0_5 a1 = some r) :
  Calls Tryd.prog 51 #[.agg #[.int .i64 a0_0, .int .i64 a0_1, .int .i64 a0_2, .slice A0_3 l0_3.length c0_3, .slice A0_4 l0_4.length c0_4, .slice A0_5 l0_5.length c0_5], .int .i64 a1] w fun e w' => e = .returned (.int .i64 r) ∧ Below w.heap.size w w' := by
 have hu64 := Tryd.underlying64
 have HR0_3 := Aside0.mk hr0_3
 have HC0_3 := Aside0.mk hc0_3
 clear hr0_3 hc0_3
 have HR0_4 := Aside0.mk hr0_4
 have HC0_4 := Aside0.mk hc0_4
 clear hr0_4 hc0_4
 have HR0_5 := Aside0.mk hr0_5
 have HC0_5 := Aside0.mk hc0_5
 clear hr0_5 hc0_5
 have HB := Aside0.mk (Below.refl w.heap.size w)
 unfold laws_heldInode.f at h
 have H := h
 clear h
 replace H := bA H
 obtain ⟨t419, A3, H⟩ := H
 try dsimp only at H
 replace H := itD H
 rcases H with ⟨c4b0, H⟩ | ⟨c4b0, H⟩
 ·obtain rfl := Option.some.inj H
  go_enter Tryd.func51, Tryd.ntmps51
  go_wp2_with (first | ((with_reducible refine gate_dst (N := 2) rfl ?_); refine bx_ 2 #[.int .i64 a0_0, .int .i64 a0_1, .int .i64 a0_2, .slice A0_3 l0_3.length c0_3, .slice A0_4 l0_4.length c0_4, .slice A0_5 l0_5.length c0_5] 64 ?_; intro gb418 hg w5 hbox hb; have BK418 := Aside0.mk (hbox); have GW418 := gs_ hg; have GE418 := gs_ hg; replace HB := Aside0.mk (below_step oB hb); clear hb hbox hg; obtain ⟨⟨_, _, _, _, _, _⟩, _, _, _, _, _, _⟩ := z6 BK418) | ((with_reducible refine gate_callee (f := 44) rfl ?_); refine gl_ 8 Tryd.func44 (laws_heldByteS.calls k _ _ l0_3 a1 t419 _ (kC HR0_3) HC0_3.out A3.out) ?_; rintro e w' ⟨rfl, ⟨nd, rfl⟩⟩; refine ⟨_, rfl, ?_⟩))
  go_ret
  exact ⟨oE, oB⟩
 ·replace H := bA H
  obtain ⟨t420, A7, H⟩ := H
  try dsimp only at H
  replace H := itD H
  rcases H with ⟨c8b0, H⟩ | ⟨c8b0, H⟩
  ·obtain rfl := Option.some.inj H
   go_enter Tryd.func51, Tryd.ntmps51
   go_wp2_with (first | ((with_reducible refine gate_dst (N := 2) rfl ?_); refine bx_ 2 #[.int .i64 a0_0, .int .i64 a0_1, .int .i64 a0_2, .slice A0_3 l0_3.length c0_3, .slice A0_4 l0_4.length c0_4, .slice A0_5 l0_5.length c0_5] 64 ?_; intro gb418 hg w9 hbox hb; have BK418 := Aside0.mk (hbox); have GW418 := gs_ hg; have GE418 := gs_ hg; replace HB := Aside0.mk (below_step oB hb); clear hb hbox hg; obtain ⟨⟨_, _, _, _, _, _⟩, _, _, _, _, _, _⟩ := z6 BK418) | ((with_reducible refine gate_callee (f := 44) rfl ?_); refine gl_ 8 Tryd.func44 (laws_heldByteS.calls k _ _ l0_3 a1 t419 _ (kC HR0_3) HC0_3.out A3.out) ?_; rintro e w' ⟨rfl, ⟨nd, rfl⟩⟩; refine ⟨_, rfl, ?_⟩) | ((with_reducible refine gate_callee (f := 77) rfl ?_); refine gl_ 14 Tryd.func77 (laws_heldEntS.calls k _ _ l0_4 t419 t420 _ (kC HR0_4) HC0_4.out A7.out) ?_; rintro e w11 ⟨rfl, hb⟩; refine ⟨_, rfl, ?_⟩; replace BK418 := kb_ BK418 hb; replace HB := Aside0.mk (below_step oB hb)))
   go_ret
   exact ⟨oE, oB⟩
  ·replace H := bA H
   obtain ⟨t421, A12, H⟩ := H
   try dsimp only at H
   replace H := itD H
   rcases H with ⟨c13b0, H⟩ | ⟨c13b0, H⟩
   ·obtain rfl := Option.some.inj H
    go_enter Tryd.func51, Tryd.ntmps51
    go_wp2_with (first | ((with_reducible refine gate_dst (N := 2) rfl ?_); refine bx_ 2 #[.int .i64 a0_0, .int .i64 a0_1, .int .i64 a0_2, .slice A0_3 l0_3.length c0_3, .slice A0_4 l0_4.length c0_4, .slice A0_5 l0_5.length c0_5] 64 ?_; intro gb418 hg w14 hbox hb; have BK418 := Aside0.mk (hbox); have GW418 := gs_ hg; have GE418 := gs_ hg; replace HB := Aside0.mk (below_step oB hb); clear hb hbox hg; obtain ⟨⟨_, _, _, _, _, _⟩, _, _, _, _, _, _⟩ := z6 BK418) | ((with_reducible refine gate_callee (f := 44) rfl ?_); refine gl_ 8 Tryd.func44 (laws_heldByteS.calls k _ _ l0_3 a1 t419 _ (kC HR0_3) HC0_3.out A3.out) ?_; rintro e w' ⟨rfl, ⟨nd, rfl⟩⟩; refine ⟨_, rfl, ?_⟩) | ((with_reducible refine gate_callee (f := 77) rfl ?_); refine gl_ 14 Tryd.func77 (laws_heldEntS.calls k _ _ l0_4 t419 t420 _ (kC HR0_4) HC0_4.out A7.out) ?_; rintro e w16 ⟨rfl, hb⟩; refine ⟨_, rfl, ?_⟩; replace BK418 := kb_ BK418 hb; replace HB := Aside0.mk (below_step oB hb); obtain ⟨⟨_, _, _, _, _, _⟩, _, _, _, _, _, _⟩ := z6 BK418) | ((with_reducible refine gate_callee (f := 78) rfl ?_); refine gl_ 20 Tryd.func78 (laws_heldAttrS.calls k _ _ l0_5 t420 t421 _ (kC HR0_5) HC0_5.out A12.out) ?_; rintro e w18 ⟨rfl, hb⟩; refine ⟨_, rfl, ?_⟩; replace BK418 := kb_ BK418 hb; replace HB := Aside0.mk (below_step oB hb)))
    go_ret
    exact ⟨oE, oB⟩
   ·obtain rfl := Option.some.inj H
    go_enter Tryd.func51, Tryd.ntmps51
    go_wp2_with (first | ((with_reducible refine gate_dst (N := 2) rfl ?_); refine bx_ 2 #[.int .i64 a0_0, .int .i64 a0_1, .int .i64 a0_2, .slice A0_3 l0_3.length c0_3, .slice A0_4 l0_4.length c0_4, .slice A0_5 l0_5.length c0_5] 64 ?_; intro gb418 hg w19 hbox hb; have BK418 := Aside0.mk (hbox); have GW418 := gs_ hg; have GE418 := gs_ hg; replace HB := Aside0.mk (below_step oB hb); clear hb hbox hg; obtain ⟨⟨_, _, _, _, _, _⟩, _, _, _, _, _, _⟩ := z6 BK418) | ((with_reducible refine gate_callee (f := 44) rfl ?_); refine gl_ 8 Tryd.func44 (laws_heldByteS.calls k _ _ l0_3 a1 t419 _ (kC HR0_3) HC0_3.out A3.out) ?_; rintro e w' ⟨rfl, ⟨nd, rfl⟩⟩; refine ⟨_, rfl, ?_⟩) | ((with_reducible refine gate_callee (f := 77) rfl ?_); refine gl_ 14 Tryd.func77 (laws_heldEntS.calls k _ _ l0_4 t419 t420 _ (kC HR0_4) HC0_4.out A7.out) ?_; rintro e w21 ⟨rfl, hb⟩; refine ⟨_, rfl, ?_⟩; replace BK418 := kb_ BK418 hb; replace HB := Aside0.mk (below_step oB hb); obtain ⟨⟨_, _, _, _, _, _⟩, _, _, _, _, _, _⟩ := z6 BK418) | ((with_reducible refine gate_callee (f := 78) rfl ?_); refine gl_ 20 Tryd.func78 (laws_heldAttrS.calls k _ _ l0_5 t420 t421 _ (kC HR0_5) HC0_5.out A12.out) ?_; rintro e w23 ⟨rfl, hb⟩; refine ⟨_, rfl, ?_⟩; replace BK418 := kb_ BK418 hb; replace HB := Aside0.mk (below_step oB hb)))
    go_ret
    exact ⟨oE, oB⟩

/-! ### laws_FnExactStat: function 13 -/
def laws_FnExactStat.T12 : Bool × List (List Nat × List Nat) := (true, [([], []), ([], []), ([1], [1]), ([0, 2, 2], [0, 2]), ([3], [3])])
def laws_FnExactStat.B12 : List Nat := [0, 0, 2, 7, 15]
theorem laws_FnExactStat.tab12 : rtab .any (opsOf Tryd.f13 12) = laws_FnExactStat.T12 := by kernel_rfl
theorem laws_FnExactStat.bits12 : waitsOk laws_FnExactStat.T12.2 laws_FnExactStat.B12 = true := by kernel_rfl
theorem laws_heldInode.calls' (k : Nat) (a0_0 a0_1 a0_2 : Int) (A0_3 : Option Addr) (c0_3 n3 : Nat) (l0_3 : List Int) (A0_4 : Option Addr) (c0_4 n4 : Nat) (l0_4 : List S91) (A0_5 : Option Addr) (c0_5 n5 : Nat) (l0_5 : List S87) (a1 r : Int) (w : World) (e3 : l0_3.length = n3) (e4 : l0_4.length = n4) (e5 : l0_5.length = n5) (hr0_3 : Kd.C (Kd.int .u8) w A0_3 l0_3.length l0_3) (hc0_3 : l0_3.length ≤ c0_3) (hr0_4 : Kd.C k91 w A0_4 l0_4.length l0_4) (hc0_4 : l0_4.length ≤ c0_4) (hr0_5 : Kd.C k87 w A0_5 l0_5.length l0_5) (hc0_5 : l0_5.length ≤ c0_5) (h : laws_heldInode.f k a0_0 a0_1 a0_2 l0_3 l0_4 l0_5 a1 = some r) :
  Calls Tryd.prog 51 #[.agg #[.int .i64 a0_0, .int .i64 a0_1, .int .i64 a0_2, .slice A0_3 n3 c0_3, .slice A0_4 n4 c0_4, .slice A0_5 n5 c0_5], .int .i64 a1] w fun e w' => e = .returned (.int .i64 r) ∧ Below w.heap.size w w' := by
 subst e3
 subst e4
 subst e5
 exact laws_heldInode.calls k a0_0 a0_1 a0_2 A0_3 c0_3 l0_3 A0_4 c0_4 l0_4 A0_5 c0_5 l0_5 a1 r w hr0_3 hc0_3 hr0_4 hc0_4 hr0_5 hc0_5 h
def laws_FnExactStat.f (k : Nat) (l0_0 : List S115) (a0_1 : Int) (a1 : ByteArray) : Option Bool :=
 if (a1.size : Int) > 1048576 then some true else (laws_szTab.f k l0_0 a0_1 1048576).bind fun R => if R < 0 then some true else
 (laws_toTab.f k l0_0 a0_1).bind fun t => (spec_Stat.f k t.1 t.2 a1).bind fun p => (impl_Stat.f k t.1 t.2 a1).bind fun s =>
 (laws_eqInode.f k s.1 s.2.1 s.2.2.1 s.2.2.2.1 s.2.2.2.2.1 s.2.2.2.2.2.1 p.1 p.2.1 p.2.2.1 p.2.2.2.1 p.2.2.2.2.1 p.2.2.2.2.2.1).bind fun e1 => (laws_eqTab.f k t.1 t.2 t.1 t.2).bind fun e2 => (laws_markInodeS.f k t.1 1).bind fun mt =>
 (laws_markInode.f k s.1 s.2.1 s.2.2.1 s.2.2.2.1 s.2.2.2.2.1 s.2.2.2.2.2.1 1).bind fun m => (laws_heldInode.f k s.1 s.2.1 s.2.2.1 m.2.1 m.2.2.1 m.2.2.2 1).bind fun q =>
 if s.2.2.2.2.2.2 = p.2.2.2.2.2.2 ∧ e1 = true ∧ e2 = true ∧ ¬ mt.1 < 0 ∧ ¬ q < 0 ∧ q = m.1 ∧ m.2.1.length = s.2.2.2.1.length ∧ m.2.2.1.length = s.2.2.2.2.1.length ∧ m.2.2.2.length = s.2.2.2.2.2.1.length then some true else none
set_option maxHeartbeats 8000000 in
set_option maxRecDepth 100000 in
theorem laws_FnExactStat.calls (k : Nat) (A0_0 : Option Addr) (c0_0 : Nat) (l0_0 : List S115) (a0_1 : Int) (a1 : ByteArray) (r : Bool) (w : World) (hr0_0 : Kd.C k115 w A0_0 l0_0.length l0_0) (hc0_0 : l0_0.length ≤ c0_0) (h : laws_FnExactStat.f k l0_0 a0_1 a1 = some r) (hG : GOk w := by exact gk_ oB (by first | (with_reducible assumption) | assumption)) :
  Calls Tryd.prog 13 #[.agg #[.slice A0_0 l0_0.length c0_0, .int .i64 a0_1], .string a1] w fun e w' => e = .returned (.bool r) ∧ Below w.heap.size w w' := by
 have HG := Aside0.mk hG
 clear hG
 have HR0_0 := Aside0.mk hr0_0
 have HC0_0 := Aside0.mk hc0_0
 clear hr0_0 hc0_0
 have HB := Aside0.mk (Below.refl w.heap.size w)
 unfold laws_FnExactStat.f at h
 split at h
 case isTrue hg =>
  have cg0 : decide ((a1.size : Int) > 1048576) = true := decide_eq_true hg
  have dg0 : decide (1048576 < (a1.size : Int)) = true := decide_eq_true (by omega)
  obtain rfl := Option.some.inj h
  clear h hg
  go_enter Tryd.func13, Tryd.ntmps13
  go_wp2
  go_ret
  exact ⟨rfl, oB⟩
 case isFalse hg =>
 have cg0 : decide ((a1.size : Int) > 1048576) = false := decide_eq_false hg
 have dg0 : decide (1048576 < (a1.size : Int)) = false := decide_eq_false (by omega)
 clear hg
 replace h := bA h
 obtain ⟨R, H1, h⟩ := h
 split at h
 case isTrue hR =>
  have cR : decide (R < 0) = true := decide_eq_true hR
  obtain rfl := Option.some.inj h
  clear h hR
  go_enter Tryd.func13, Tryd.ntmps13
  go_wp2_with fail
  refine (laws_szTab.calls k _ _ l0_0 a0_1 1048576 R _ (kC HR0_0) HC0_0.out H1.out).mono ?_
  rintro e w1 ⟨rfl, hb⟩
  replace HB := Aside0.mk (below_step oB hb)
  go_wp2
  go_ret
  exact ⟨rfl, oB⟩
 case isFalse hR =>
 have cR : decide (R < 0) = false := decide_eq_false hR
 clear hR
 replace h := bA h
 obtain ⟨⟨tl, tn⟩, H2, h⟩ := h
 replace h := bA h
 obtain ⟨⟨p1, p2, p3, p4, p5, p6, p7⟩, H3, h⟩ := h
 replace h := bA h
 obtain ⟨⟨s1, s2, s3, s4, s5, s6, s7⟩, H4, h⟩ := h
 replace h := bA h
 obtain ⟨e1, H5, h⟩ := h
 replace h := bA h
 obtain ⟨e2, H6, h⟩ := h
 replace h := bA h
 obtain ⟨⟨mt, ml⟩, H7, h⟩ := h
 replace h := bA h
 obtain ⟨⟨mk, m4, m5, m6⟩, H8, h⟩ := h
 replace h := bA h
 obtain ⟨q, H9, h⟩ := h
 split at h
 case isFalse => cases h
 case isTrue hh =>
 try dsimp only at hh
 obtain ⟨rfl, rfl, rfl, hmt, hq, rfl, l4, l5, l6⟩ := hh
 obtain rfl := Option.some.inj h
 clear h
 have cm : decide (mt < 0) = false := decide_eq_false hmt
 have cq : decide (q < 0) = false := decide_eq_false hq
 clear hmt hq
 have L4 := Aside0.mk l4
 have L5 := Aside0.mk l5
 have L6 := Aside0.mk l6
 clear l4 l5 l6
 try dsimp only at H3 H4 H5 H6 H7 H8 H9 L4 L5 L6
 go_enter Tryd.func13, Tryd.ntmps13
 go_wp2_with fail
 refine (laws_szTab.calls k _ _ l0_0 a0_1 1048576 R _ (kC HR0_0) HC0_0.out H1.out).mono ?_
 rintro e w1 ⟨rfl, hb⟩
 have n1 : w.heap.size + 1 ≤ w1.heap.size := by have := hb.size; simpa using this
 have K_aT := bnew hb
 replace hb := bold hb
 replace HB := Aside0.mk (below_step oB hb)
 clear hb
 have Z_aT := z2 K_aT
 have Y_aT := zz2 K_aT
 go_wp2_with fail
 refine (laws_toTab.calls k _ _ l0_0 a0_1 tl tn _ (kC HR0_0) HC0_0.out H2.out).mono ?_
 rintro e w2 ⟨v_t0, rfl, h_t0, hb⟩
 obtain ⟨A_t0, c_t0, rfl⟩ := Kd.S_slice h_t0
 have S_t0 := siv' h_t0 (w1.heap.size) w.heap.size (by simp) (below_size oB)
 clear h_t0
 have n2 : w1.heap.size ≤ w2.heap.size := by have := hb.size; simpa using this
 replace K_aT := bstep K_aT hb
 replace HB := Aside0.mk (below_step oB hb)
 clear hb
 replace Z_aT := z2 K_aT
 replace Y_aT := zz2 K_aT
 go_wp2_with fail
 refine (spec_Stat.calls k _ _ tl tn a1 p1 p2 p3 p4 p5 p6 s7 _ (rS S_t0) (rl S_t0) H3.out).mono ?_
 rintro e w3 ⟨v_w03, v_w04, v_w05, rfl, h_w03, h_w04, h_w05, hb⟩
 obtain ⟨A_w03, c_w03, rfl⟩ := Kd.R_slice h_w03
 have S_w03 := riv' h_w03 (w2.heap.size) w.heap.size (by simp) (below_size oB)
 clear h_w03
 obtain ⟨A_w04, c_w04, rfl⟩ := Kd.R_slice h_w04
 have S_w04 := riv' h_w04 (w2.heap.size) w.heap.size (by simp) (below_size oB)
 clear h_w04
 obtain ⟨A_w05, c_w05, rfl⟩ := Kd.R_slice h_w05
 have S_w05 := riv' h_w05 (w2.heap.size) w.heap.size (by simp) (below_size oB)
 clear h_w05
 have n3 : w2.heap.size ≤ w3.heap.size := by have := hb.size; simpa using this
 replace K_aT := bstep K_aT hb
 replace S_t0 := sb S_t0 hb
 replace HB := Aside0.mk (below_step oB hb)
 clear hb
 replace Z_aT := z2 K_aT
 replace Y_aT := zz2 K_aT
 clear S_t0
 go_wp2_with fail
 refine (laws_toTab.calls k _ _ l0_0 a0_1 tl tn _ (kC HR0_0) HC0_0.out H2.out).mono ?_
 rintro e w4 ⟨v_x0, rfl, h_x0, hb⟩
 obtain ⟨A_x0, c_x0, rfl⟩ := Kd.S_slice h_x0
 have S_x0 := siv' h_x0 (w3.heap.size + 1) w.heap.size (by simp) (below_size oB)
 clear h_x0
 have n4 : w3.heap.size + 1 ≤ w4.heap.size := by have := hb.size; simpa using this
 have K_w0 := bnew hb
 replace hb := bold hb
 replace K_aT := bstep K_aT hb
 replace S_w03 := rb S_w03 hb
 replace S_w04 := rb S_w04 hb
 replace S_w05 := rb S_w05 hb
 replace HB := Aside0.mk (below_step oB hb)
 clear hb
 replace Z_aT := z2 K_aT
 replace Y_aT := zz2 K_aT
 have Z_w0 := z6 K_w0
 have Y_w0 := zz6 K_w0
 go_wp2_with fail
 refine (impl_Stat.calls k _ _ tl tn a1 s1 s2 s3 s4 s5 s6 s7 _ (rS S_x0) (rl S_x0) H4.out).mono ?_
 rintro e w5 ⟨v_g03, v_g04, v_g05, rfl, h_g03, h_g04, h_g05, hb⟩
 obtain ⟨A_g03, c_g03, rfl⟩ := Kd.R_slice h_g03
 have S_g03 := riv' h_g03 (w4.heap.size + 1) w.heap.size (by simp) (below_size oB)
 clear h_g03
 obtain ⟨A_g04, c_g04, rfl⟩ := Kd.R_slice h_g04
 have S_g04 := riv' h_g04 (w4.heap.size + 1) w.heap.size (by simp) (below_size oB)
 clear h_g04
 obtain ⟨A_g05, c_g05, rfl⟩ := Kd.R_slice h_g05
 have S_g05 := riv' h_g05 (w4.heap.size + 1) w.heap.size (by simp) (below_size oB)
 clear h_g05
 have n5 : w4.heap.size + 1 ≤ w5.heap.size := by have := hb.size; simpa using this
 have K_x0 := bnew hb
 replace hb := bold hb
 replace K_aT := bstep K_aT hb
 replace K_w0 := bstep K_w0 hb
 replace S_w03 := rb S_w03 hb
 replace S_w04 := rb S_w04 hb
 replace S_w05 := rb S_w05 hb
 replace S_x0 := sb S_x0 hb
 replace HB := Aside0.mk (below_step oB hb)
 clear hb
 replace Z_aT := z2 K_aT
 replace Y_aT := zz2 K_aT
 replace Z_w0 := z6 K_w0
 replace Y_w0 := zz6 K_w0
 have Z_x0 := z2 K_x0
 have Y_x0 := zz2 K_x0
 go_wp2_with fail
 refine (laws_eqInode.calls k s1 s2 s3 _ _ s4 _ _ s5 _ _ s6 p1 p2 p3 _ _ p4 _ _ p5 _ _ p6 true _ (kO S_g03) (rlR S_g03) (kO S_g04) (rlR S_g04) (kO S_g05) (rlR S_g05) (kO S_w03) (rlR S_w03) (kO S_w04) (rlR S_w04) (kO S_w05) (rlR S_w05) H5.out).mono ?_
 rintro e w6 ⟨rfl, hb⟩
 have n6 : w5.heap.size + 1 ≤ w6.heap.size := by have := hb.size; simpa using this
 have K_g0 := bnew hb
 replace hb := bold hb
 replace K_aT := bstep K_aT hb
 replace K_w0 := bstep K_w0 hb
 replace K_x0 := bstep K_x0 hb
 replace S_w03 := rb S_w03 hb
 replace S_w04 := rb S_w04 hb
 replace S_w05 := rb S_w05 hb
 replace S_x0 := sb S_x0 hb
 replace S_g03 := rb S_g03 hb
 replace S_g04 := rb S_g04 hb
 replace S_g05 := rb S_g05 hb
 replace HB := Aside0.mk (below_step oB hb)
 clear hb
 replace Z_aT := z2 K_aT
 replace Y_aT := zz2 K_aT
 replace Z_w0 := z6 K_w0
 replace Y_w0 := zz6 K_w0
 replace Z_x0 := z2 K_x0
 replace Y_x0 := zz2 K_x0
 have Z_g0 := z6 K_g0
 have Y_g0 := zz6 K_g0
 go_wp2_with fail
 replace K_aT := bdrew K_aT
 replace K_w0 := bdrew K_w0
 replace K_x0 := bdrew K_x0
 replace K_g0 := bdrew K_g0
 replace S_w03 := rdrew S_w03
 replace S_w04 := rdrew S_w04
 replace S_w05 := rdrew S_w05
 replace S_x0 := sdrew S_x0
 replace S_g03 := rdrew S_g03
 replace S_g04 := rdrew S_g04
 replace S_g05 := rdrew S_g05
 replace HB := Aside0.mk (below_drew1 HB.out)
 have n7 : w6.heap.size ≤ w6.drew.heap.size := Nat.le_refl _
 clear Z_aT Y_aT Z_w0 Y_w0 Z_x0 Y_x0 Z_g0 Y_g0
 refine st_ 5 (fun w' => w'.cell? ⟨w4.heap.size, 0, none⟩ = some (.slice A_x0 tl.length c_x0) ∧ w'.cell? ⟨w4.heap.size, 1, none⟩ = some (.int .i64 tn) ∧ w'.cell? ⟨w.heap.size, 0, none⟩ = some (.slice A0_0 l0_0.length c0_0) ∧ w'.cell? ⟨w.heap.size, 1, none⟩ = some (.int .i64 a0_1)) laws_FnExactStat.tab12 laws_FnExactStat.bits12 oH (fun hHeld HT_ HW_ => ?_)
 generalize w6.drew = w7 at HB hHeld n7 K_aT K_w0 K_x0 K_g0 S_w03 S_w04 S_w05 S_x0 S_g03 S_g04 S_g05 ⊢
 refine ta_ 0 48 HT_ HW_ hHeld ?_
 refine ta_ 1 49 HT_ HW_ hHeld ?_
 refine on_ 2 50 HT_ (fun K hK => ?_)
 refine gr_ 50 Tryd.func34 (laws_toTab.calls k _ _ l0_0 a0_1 tl tn _ (kC HR0_0) HC0_0.out H2.out) ?_
 rintro e w8 ⟨v_y0, rfl, h_y0, hb⟩
 obtain ⟨A_y0, c_y0, rfl⟩ := Kd.S_slice h_y0
 have S_y0 := siv' h_y0 (w7.heap.size) w.heap.size (by simp) (below_size oB)
 clear h_y0
 refine ⟨_, rfl, ?_⟩
 have n8 : w7.heap.size ≤ w8.heap.size := by have := hb.size; simpa using this
 replace K_aT := bstep K_aT hb
 replace K_w0 := bstep K_w0 hb
 replace K_x0 := bstep K_x0 hb
 replace K_g0 := bstep K_g0 hb
 replace S_w03 := rb S_w03 hb
 replace S_w04 := rb S_w04 hb
 replace S_w05 := rb S_w05 hb
 replace S_x0 := sb S_x0 hb
 replace S_g03 := rb S_g03 hb
 replace S_g04 := rb S_g04 hb
 replace S_g05 := rb S_g05 hb
 replace HB := Aside0.mk (below_step oB hb)
 clear hb hHeld
 refine hk_ hK 50 oH (fun hHeld => ?_)
 clear hK K
 refine on_ 3 51 HT_ (fun K hK => ?_)
 refine gr_ 51 Tryd.func36 (laws_eqTab.calls k _ _ tl tn _ _ tl tn true _ (rS S_x0) (rl S_x0) (rS S_y0) (rl S_y0) H6.out) ?_
 rintro e w9 ⟨rfl, hb⟩
 refine ⟨_, rfl, ?_⟩
 have n9 : w8.heap.size ≤ w9.heap.size := by have := hb.size; simpa using this
 replace K_aT := bstep K_aT hb
 replace K_w0 := bstep K_w0 hb
 replace K_x0 := bstep K_x0 hb
 replace K_g0 := bstep K_g0 hb
 replace S_w03 := rb S_w03 hb
 replace S_w04 := rb S_w04 hb
 replace S_w05 := rb S_w05 hb
 replace S_x0 := sb S_x0 hb
 replace S_g03 := rb S_g03 hb
 replace S_g04 := rb S_g04 hb
 replace S_g05 := rb S_g05 hb
 replace S_y0 := sb S_y0 hb
 replace HB := Aside0.mk (below_step oB hb)
 clear hb hHeld
 refine hk_ hK 51 oH (fun hHeld => ?_)
 clear hK K
 refine pu_ 4 52 HT_ ?_
 refine dn_ HT_ ?_
 clear hHeld HT_ HW_
 have Z_aT := z2 K_aT
 have Y_aT := zz2 K_aT
 have Z_w0 := z6 K_w0
 have Y_w0 := zz6 K_w0
 have Z_x0 := z2 K_x0
 have Y_x0 := zz2 K_x0
 have Z_g0 := z6 K_g0
 have Y_g0 := zz6 K_g0
 clear S_y0
 go_wp2_with fail
 refine (laws_markTab.calls k _ _ tl tn 1 mt ml w _ HB.out S_x0.out H7.out).mono ?_
 rintro e w10 ⟨rfl, h_x0, hb, hk⟩
 have n10 : w9.heap.size ≤ w10.heap.size := hk.1
 replace S_w03 := rk S_w03 hk (fun q h h' => by omega)
 replace S_w04 := rk S_w04 hk (fun q h h' => by omega)
 replace S_w05 := rk S_w05 hk (fun q h h' => by omega)
 replace S_g03 := rk S_g03 hk (fun q h h' => by omega)
 replace S_g04 := rk S_g04 hk (fun q h h' => by omega)
 replace S_g05 := rk S_g05 hk (fun q h h' => by omega)
 replace K_aT := bkept K_aT hk (fun h => by omega)
 replace K_w0 := bkept K_w0 hk (fun h => by omega)
 clear K_x0 Z_x0 Y_x0
 replace K_g0 := bkept K_g0 hk (fun h => by omega)
 clear S_x0
 clear h_x0
 replace HB := Aside0.mk hb
 clear hb hk
 replace Z_aT := z2 K_aT
 replace Y_aT := zz2 K_aT
 replace Z_w0 := z6 K_w0
 replace Y_w0 := zz6 K_w0
 replace Z_g0 := z6 K_g0
 replace Y_g0 := zz6 K_g0
 go_wp2_with fail
 refine (laws_eqInode.calls k s1 s2 s3 _ _ s4 _ _ s5 _ _ s6 p1 p2 p3 _ _ p4 _ _ p5 _ _ p6 true _ (kO S_g03) (rlR S_g03) (kO S_g04) (rlR S_g04) (kO S_g05) (rlR S_g05) (kO S_w03) (rlR S_w03) (kO S_w04) (rlR S_w04) (kO S_w05) (rlR S_w05) H5.out).mono ?_
 rintro e w11 ⟨rfl, hb⟩
 have n11 : w10.heap.size ≤ w11.heap.size := by have := hb.size; simpa using this
 replace K_aT := bstep K_aT hb
 replace K_w0 := bstep K_w0 hb
 replace K_g0 := bstep K_g0 hb
 replace S_w03 := rb S_w03 hb
 replace S_w04 := rb S_w04 hb
 replace S_w05 := rb S_w05 hb
 replace S_g03 := rb S_g03 hb
 replace S_g04 := rb S_g04 hb
 replace S_g05 := rb S_g05 hb
 replace HB := Aside0.mk (below_step oB hb)
 clear hb
 replace Z_aT := z2 K_aT
 replace Y_aT := zz2 K_aT
 replace Z_w0 := z6 K_w0
 replace Y_w0 := zz6 K_w0
 replace Z_g0 := z6 K_g0
 replace Y_g0 := zz6 K_g0
 go_wp2_with fail
 refine (laws_markInode.calls k s1 s2 s3 _ _ s4 _ _ s5 _ _ s6 1 q m4 m5 m6 w _ HB.out S_g03.out S_g04.out S_g05.out H8.out).mono ?_
 rintro e w12 ⟨rfl, h_g03, h_g04, h_g05, hb, hk⟩
 have n12 : w11.heap.size ≤ w12.heap.size := hk.1
 replace S_w03 := rk S_w03 hk (fun q h h' => by omega)
 replace S_w04 := rk S_w04 hk (fun q h h' => by omega)
 replace S_w05 := rk S_w05 hk (fun q h h' => by omega)
 replace K_aT := bkept K_aT hk (fun h => by omega)
 replace K_w0 := bkept K_w0 hk (fun h => by omega)
 replace K_g0 := bkept K_g0 hk (fun h => by omega)
 replace S_g03 := Aside0.mk h_g03
 clear h_g03
 replace S_g04 := Aside0.mk h_g04
 clear h_g04
 replace S_g05 := Aside0.mk h_g05
 clear h_g05
 replace HB := Aside0.mk hb
 clear hb hk
 replace Z_aT := z2 K_aT
 replace Y_aT := zz2 K_aT
 replace Z_w0 := z6 K_w0
 replace Y_w0 := zz6 K_w0
 replace Z_g0 := z6 K_g0
 replace Y_g0 := zz6 K_g0
 go_wp2_with fail
 refine (laws_heldInode.calls' k s1 s2 s3 _ _ _ m4 _ _ _ m5 _ _ _ m6 1 q _ L4.out L5.out L6.out (kO S_g03) (rlR S_g03) (kO S_g04) (rlR S_g04) (kO S_g05) (rlR S_g05) H9.out).mono ?_
 rintro e w13 ⟨rfl, hb⟩
 have n13 : w12.heap.size ≤ w13.heap.size := by have := hb.size; simpa using this
 replace K_aT := bstep K_aT hb
 replace K_w0 := bstep K_w0 hb
 replace K_g0 := bstep K_g0 hb
 replace S_w03 := rb S_w03 hb
 replace S_w04 := rb S_w04 hb
 replace S_w05 := rb S_w05 hb
 replace S_g03 := rb S_g03 hb
 replace S_g04 := rb S_g04 hb
 replace S_g05 := rb S_g05 hb
 replace HB := Aside0.mk (below_step oB hb)
 clear hb
 replace Z_aT := z2 K_aT
 replace Y_aT := zz2 K_aT
 replace Z_w0 := z6 K_w0
 replace Y_w0 := zz6 K_w0
 replace Z_g0 := z6 K_g0
 replace Y_g0 := zz6 K_g0
 go_wp2_with fail
 refine (laws_toTab.calls k _ _ l0_0 a0_1 tl tn _ (kC HR0_0) HC0_0.out H2.out).mono ?_
 rintro e w14 ⟨v_z0, rfl, h_z0, hb⟩
 obtain ⟨A_z0, c_z0, rfl⟩ := Kd.S_slice h_z0
 have S_z0 := siv' h_z0 (w13.heap.size) w.heap.size (by simp) (below_size oB)
 clear h_z0
 have n14 : w13.heap.size ≤ w14.heap.size := by have := hb.size; simpa using this
 replace K_aT := bstep K_aT hb
 replace K_w0 := bstep K_w0 hb
 replace K_g0 := bstep K_g0 hb
 replace S_w03 := rb S_w03 hb
 replace S_w04 := rb S_w04 hb
 replace S_w05 := rb S_w05 hb
 replace S_g03 := rb S_g03 hb
 replace S_g04 := rb S_g04 hb
 replace S_g05 := rb S_g05 hb
 replace HB := Aside0.mk (below_step oB hb)
 clear hb
 replace Z_aT := z2 K_aT
 replace Y_aT := zz2 K_aT
 replace Z_w0 := z6 K_w0
 replace Y_w0 := zz6 K_w0
 replace Z_g0 := z6 K_g0
 replace Y_g0 := zz6 K_g0
 go_wp2_with fail
 refine (impl_Stat.calls k _ _ tl tn a1 s1 s2 s3 s4 s5 s6 s7 _ (rS S_z0) (rl S_z0) H4.out).mono ?_
 rintro e w15 ⟨v_h03, v_h04, v_h05, rfl, h_h03, h_h04, h_h05, hb⟩
 obtain ⟨A_h03, c_h03, rfl⟩ := Kd.R_slice h_h03
 have S_h03 := riv' h_h03 (w14.heap.size) w.heap.size (by simp) (below_size oB)
 clear h_h03
 obtain ⟨A_h04, c_h04, rfl⟩ := Kd.R_slice h_h04
 have S_h04 := riv' h_h04 (w14.heap.size) w.heap.size (by simp) (below_size oB)
 clear h_h04
 obtain ⟨A_h05, c_h05, rfl⟩ := Kd.R_slice h_h05
 have S_h05 := riv' h_h05 (w14.heap.size) w.heap.size (by simp) (below_size oB)
 clear h_h05
 have n15 : w14.heap.size ≤ w15.heap.size := by have := hb.size; simpa using this
 replace K_aT := bstep K_aT hb
 replace K_w0 := bstep K_w0 hb
 replace K_g0 := bstep K_g0 hb
 replace S_w03 := rb S_w03 hb
 replace S_w04 := rb S_w04 hb
 replace S_w05 := rb S_w05 hb
 replace S_g03 := rb S_g03 hb
 replace S_g04 := rb S_g04 hb
 replace S_g05 := rb S_g05 hb
 replace S_z0 := sb S_z0 hb
 replace HB := Aside0.mk (below_step oB hb)
 clear hb
 replace Z_aT := z2 K_aT
 replace Y_aT := zz2 K_aT
 replace Z_w0 := z6 K_w0
 replace Y_w0 := zz6 K_w0
 replace Z_g0 := z6 K_g0
 replace Y_g0 := zz6 K_g0
 go_wp2_with fail
 refine (laws_eqInode.calls k s1 s2 s3 _ _ s4 _ _ s5 _ _ s6 p1 p2 p3 _ _ p4 _ _ p5 _ _ p6 true _ (kO S_h03) (rlR S_h03) (kO S_h04) (rlR S_h04) (kO S_h05) (rlR S_h05) (kO S_w03) (rlR S_w03) (kO S_w04) (rlR S_w04) (kO S_w05) (rlR S_w05) H5.out).mono ?_
 rintro e w16 ⟨rfl, hb⟩
 have n16 : w15.heap.size + 1 ≤ w16.heap.size := by have := hb.size; simpa using this
 have K_h0 := bnew hb
 replace hb := bold hb
 replace K_aT := bstep K_aT hb
 replace K_w0 := bstep K_w0 hb
 replace K_g0 := bstep K_g0 hb
 replace S_w03 := rb S_w03 hb
 replace S_w04 := rb S_w04 hb
 replace S_w05 := rb S_w05 hb
 replace S_g03 := rb S_g03 hb
 replace S_g04 := rb S_g04 hb
 replace S_g05 := rb S_g05 hb
 replace S_z0 := sb S_z0 hb
 replace S_h03 := rb S_h03 hb
 replace S_h04 := rb S_h04 hb
 replace S_h05 := rb S_h05 hb
 replace HB := Aside0.mk (below_step oB hb)
 clear hb
 replace Z_aT := z2 K_aT
 replace Y_aT := zz2 K_aT
 replace Z_w0 := z6 K_w0
 replace Y_w0 := zz6 K_w0
 replace Z_g0 := z6 K_g0
 replace Y_g0 := zz6 K_g0
 have Z_h0 := z6 K_h0
 have Y_h0 := zz6 K_h0
 go_wp2_with fail
 refine (laws_heldInode.calls' k s1 s2 s3 _ _ _ m4 _ _ _ m5 _ _ _ m6 1 q _ L4.out L5.out L6.out (kO S_g03) (rlR S_g03) (kO S_g04) (rlR S_g04) (kO S_g05) (rlR S_g05) H9.out).mono ?_
 rintro e w17 ⟨rfl, hb⟩
 have n17 : w16.heap.size ≤ w17.heap.size := by have := hb.size; simpa using this
 replace K_aT := bstep K_aT hb
 replace K_w0 := bstep K_w0 hb
 replace K_g0 := bstep K_g0 hb
 replace K_h0 := bstep K_h0 hb
 replace S_w03 := rb S_w03 hb
 replace S_w04 := rb S_w04 hb
 replace S_w05 := rb S_w05 hb
 replace S_g03 := rb S_g03 hb
 replace S_g04 := rb S_g04 hb
 replace S_g05 := rb S_g05 hb
 replace S_z0 := sb S_z0 hb
 replace S_h03 := rb S_h03 hb
 replace S_h04 := rb S_h04 hb
 replace S_h05 := rb S_h05 hb
 replace HB := Aside0.mk (below_step oB hb)
 clear hb
 replace Z_aT := z2 K_aT
 replace Y_aT := zz2 K_aT
 replace Z_w0 := z6 K_w0
 replace Y_w0 := zz6 K_w0
 replace Z_g0 := z6 K_g0
 replace Y_g0 := zz6 K_g0
 replace Z_h0 := z6 K_h0
 replace Y_h0 := zz6 K_h0
 go_wp2_with fail
 go_ret
 exact ⟨rfl, oB⟩
end Go.Proofs.YtkfcmpalbhmmaaaDoor.P
