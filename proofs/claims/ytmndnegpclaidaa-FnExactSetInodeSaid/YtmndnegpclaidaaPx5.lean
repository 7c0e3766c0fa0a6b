-- By this session's own program (wip/myprint.py) out of the translation; Lean checks it.
import Derived.Test.YtmndnegpclaidaaPx0
import Derived.Test.YtmndnegpclaidaaPx4
namespace Go.Proofs.Ytmndnegpclaidaa.P
open Go.RowKit Go.Proofs.YtmndnegpclaidaaW.PrintWords Go.Proofs.YtmndnegpclaidaaW.PrintLast Go.Proofs.YtmndnegpclaidaaW.PrintMore
attribute [local go_sem] max2_int min2_int max_two min_two max_three min_three max_four min_four   -- for this text's walks alone
set_option linter.unusedVariables false
set_option linter.unusedSimpArgs false

/-! ### laws_heldByteS: function 86 -/
def laws_heldByteS.l0 : Nat → List Int → Int → Int → Option (Int)
 | 0, _, _, _ => none
 | k + 1, x0, x1, x5 => if x5 < (x0.length : Int) then (if 0 ≤ x5 then (if (rd x0 x5) = ((x1) % 256) then (laws_heldByteS.l0 k x0 (wrap64 (x1 + 1)) (wrap64 (x5 + 1))) else (some (-1))) else (none)) else (some x1)
def laws_heldByteS.f (k : Nat) (l0 : List Int) (a1 : Int) : Option (Int) := laws_heldByteS.l0 k l0 a1 0
set_option maxHeartbeats 8000000 in
set_option maxRecDepth 100000 in
theorem laws_heldByteS.calls (k : Nat) (A0 : Option Addr) (c0 : Nat) (l0 : List Int) (a1 : Int) (r : Int) (w : World) (hr0 : Kd.C (Kd.int .u8) w A0 l0.length l0) (hc0 : l0.length ≤ c0) (h : laws_heldByteS.f k l0 a1 = some r) :
  Calls Try.prog 86 #[.slice A0 l0.length c0, .int .i64 a1] w fun e w' => e = .returned (.int .i64 r) ∧ Drawn0 w w' := by
 have HR0 := Aside0.mk hr0
 have HC0 := Aside0.mk hc0
 clear hr0 hc0
 unfold laws_heldByteS.f at h
 have H := h
 clear h
 have H' := Aside0.mk H
 clear H
 go_enter Try.func86, Try.ntmps86
 go_wp2
 go_loopg [1, 5] k (fun kq v1 v5 w' => ∃ (x1_1 : Int) (x5_1 : Int), v1 = .int .i64 x1_1 ∧ v5 = .int .i64 x5_1 ∧ Aside0 (laws_heldByteS.l0 kq l0 x1_1 x5_1 = some r) ∧ Aside0 (kq ≤ k) ∧ Drawn0 w w')
 case atStart => exact ⟨(a1), (0), oS, oS, H', ⟨Nat.le_refl _⟩, oD⟩
 case round =>
  clear H'
  obtain ⟨x1_1, x5_1, rfl, rfl, HA, HK1, ⟨m1, rfl⟩⟩ := hrel
  cases gk with
  | zero => exact absurd HA.out (by simp [laws_heldByteS.l0])
  | succ k1 =>
   have H := HA.out
   clear HA
   simp only [laws_heldByteS.l0] at H
   replace H := itD H
   rcases H with ⟨c3b0, H⟩ | ⟨c3b0, H⟩
   ·replace H := itD H
    rcases H with ⟨c4b0, H⟩ | ⟨c4b0, H⟩
    ·by_cases c5 : (rd l0 x5_1) = ((x1_1) % 256)
     ·rw [if_pos c5] at H
      have c5b0 : ((rd l0 x5_1) == ((x1_1) % 256)) = true := beq_iff_eq.mpr c5
      have c5b1 : ((rd l0 x5_1) != ((x1_1) % 256)) = false := bne_eq_false_iff_eq.mpr c5
      clear c5
      have H' := Aside0.mk H
      clear H
      have p404 : (0 ≤ (x5_1 : Int)) = True := oT
      have q404 : (x5_1 < (l0.length : Int)) = True := oT
      obtain ⟨ad404, e404, hx404_0⟩ := Kd.at_int HR0.out x5_1 oa oa
      cases e404
      go_wp2
      go_roundg k1
      case measure => have := HK1.out; omega
      case rel => exact ⟨(wrap64 (x1_1 + 1)), (wrap64 (x5_1 + 1)), oS, oS, H', ⟨by have := HK1.out; omega⟩, oD⟩
     ·rw [if_neg c5] at H
      have c5b0 : ((rd l0 x5_1) == ((x1_1) % 256)) = false := beq_eq_false_iff_ne.mpr c5
      have c5b1 : ((rd l0 x5_1) != ((x1_1) % 256)) = true := bne_iff_ne.mpr c5
      obtain rfl := Option.some.inj H
      have p404 : (0 ≤ (x5_1 : Int)) = True := oT
      have q404 : (x5_1 < (l0.length : Int)) = True := oT
      obtain ⟨ad404, e404, hx404_0⟩ := Kd.at_int HR0.out x5_1 oa oa
      cases e404
      go_wp2
      go_ret
      exact ⟨oS, oD⟩
    ·cases H
   ·obtain rfl := Option.some.inj H
    go_wp2
    go_ret
    exact ⟨oS, oD⟩

/-! ### laws_heldEntS: function 87 -/
def laws_heldEntS.l0 : Nat → List (S82) → Int → Int → Option (Int)
 | 0, _, _, _ => none
 | k + 1, x0, x1, x5 => if x5 < (x0.length : Int) then (if 0 ≤ x5 then ((laws_markText.f k x1).bind fun t406 => (if ((rd_T82 x0 x5).f0).toList = t406.toList then (if ((rd_T82 x0 x5).f1) = (wrap64 (x1 + 1)) then (laws_heldEntS.l0 k x0 (wrap64 ((wrap64 (x1 + 1)) + 1)) (wrap64 (x5 + 1))) else (some (-1))) else (some (-1)))) else (none)) else (some x1)
def laws_heldEntS.f (k : Nat) (l0 : List (S82)) (a1 : Int) : Option (Int) := laws_heldEntS.l0 k l0 a1 0
def laws_heldEntS.T4 : Bool × List (List Nat × List Nat) := (true, [([], []), ([], []), ([0, 1], [0, 1]), ([2], [2]), ([3], [3]), ([], []), ([5], [5]), ([4, 6], [4, 6])])
def laws_heldEntS.B4 : List Nat := [0, 0, 3, 7, 15, 0, 32, 127]
theorem laws_heldEntS.tab4 : rtab .any (opsOf Try.f87 4) = laws_heldEntS.T4 := by kernel_rfl
theorem laws_heldEntS.bits4 : waitsOk laws_heldEntS.T4.2 laws_heldEntS.B4 = true := by kernel_rfl
set_option maxHeartbeats 8000000 in
set_option maxRecDepth 100000 in
theorem laws_heldEntS.calls (k : Nat) (A0 : Option Addr) (c0 : Nat) (l0 : List (S82)) (a1 : Int) (r : Int) (w : World) (hr0 : Kd.C k82 w A0 l0.length l0) (hc0 : l0.length ≤ c0) (h : laws_heldEntS.f k l0 a1 = some r) :
  Calls Try.prog 87 #[.slice A0 l0.length c0, .int .i64 a1] w fun e w' => e = .returned (.int .i64 r) ∧ Below w.heap.size w w' := by
 have HR0 := Aside0.mk hr0
 have HC0 := Aside0.mk hc0
 clear hr0 hc0
 have HB := Aside0.mk (Below.refl w.heap.size w)
 unfold laws_heldEntS.f at h
 have H := h
 clear h
 have H' := Aside0.mk H
 clear H
 go_enter Try.func87, Try.ntmps87
 go_wp2
 go_loopg [1, 5] k (fun kq v1 v5 w' => ∃ (x1_1 : Int) (x5_1 : Int), v1 = .int .i64 x1_1 ∧ v5 = .int .i64 x5_1 ∧ Aside0 (laws_heldEntS.l0 kq l0 x1_1 x5_1 = some r) ∧ Aside0 (kq ≤ k) ∧ Aside0 (Below w.heap.size w w'))
 case atStart => exact ⟨(a1), (0), oS, oS, H', ⟨Nat.le_refl _⟩, ⟨oB⟩⟩
 case round =>
  clear H'
  obtain ⟨x1_1, x5_1, rfl, rfl, HA, HK1, HB⟩ := hrel
  cases gk with
  | zero => exact absurd HA.out (by simp [laws_heldEntS.l0])
  | succ k1 =>
   have H := HA.out
   clear HA
   simp only [laws_heldEntS.l0] at H
   replace H := itD H
   rcases H with ⟨c3b0, H⟩ | ⟨c3b0, H⟩
   ·replace H := itD H
    rcases H with ⟨c4b0, H⟩ | ⟨c4b0, H⟩
    ·replace H := bA H
     obtain ⟨t406, A5, H⟩ := H
     try dsimp only at H
     by_cases c6 : ((rd_T82 l0 x5_1).f0).toList = t406.toList
     ·rw [if_pos c6] at H
      have c6b0 : (((rd_T82 l0 x5_1).f0).toList == t406.toList) = true := beq_iff_eq.mpr c6
      have c6b1 : (((rd_T82 l0 x5_1).f0).toList != t406.toList) = false := bne_eq_false_iff_eq.mpr c6
      clear c6
      by_cases c7 : ((rd_T82 l0 x5_1).f1) = (wrap64 (x1_1 + 1))
      ·rw [if_pos c7] at H
       have c7b0 : (((rd_T82 l0 x5_1).f1) == (wrap64 (x1_1 + 1))) = true := beq_iff_eq.mpr c7
       have c7b1 : (((rd_T82 l0 x5_1).f1) != (wrap64 (x1_1 + 1))) = false := bne_eq_false_iff_eq.mpr c7
       clear c7
       have H' := Aside0.mk H
       clear H
       try go_wp2
       replace HB := Aside0.mk (below_drew1 HB.out)
       have p405 : (0 ≤ (x5_1 : Int)) = True := oT
       have q405 : (x5_1 < (l0.length : Int)) = True := oT
       obtain ⟨ad405, e405, hx405_0, hx405_1⟩ := at_T82 HR0.out x5_1 oa oa
       have hw405_1 := hx405_1
       have hw405_0 := hx405_0
       cases e405
       replace hx405_0 := cB HB hx405_0
       replace hx405_1 := cB HB hx405_1
       refine st_ 8 (fun w' => w'.cell? (ad405.add ((x5_1).toNat * 2)) = some (.string ((rd_T82 l0 x5_1).f0)) ∧ w'.cell? ⟨(ad405.add ((x5_1).toNat * 2)).block, (ad405.add ((x5_1).toNat * 2)).off + 1, none⟩ = some (.int .i64 ((rd_T82 l0 x5_1).f1))) laws_heldEntS.tab4 laws_heldEntS.bits4 oH (fun hHeld HT_ HW_ => ?_)
       generalize wr.drew = w8 at HB hx405_0 hx405_1 hHeld ⊢
       refine pu_ 0 12 HT_ ?_
       refine pu_ 1 13 HT_ ?_
       refine pu_ 2 14 HT_ ?_
       refine pu_ 3 15 HT_ ?_
       refine pu_ 5 17 HT_ ?_
       refine ta_ 4 16 HT_ HW_ hHeld ?_
       refine on_ 6 18 HT_ (fun K hK => ?_)
       refine gr_ 18 Try.func85 (laws_markText.calls k1 x1_1 t406 _ A5.out) ?_
       rintro e w9 ⟨rfl, hb⟩
       refine ⟨_, rfl, ?_⟩
       replace HB := Aside0.mk (below_step oB hb)
       refine hk_ hK 18 oH (fun hHeld => ?_)
       clear hK K
       refine pu_ 7 19 HT_ ?_
       refine dn_ HT_ ?_
       have p407 : (0 ≤ (x5_1 : Int)) = True := oT
       have q407 : (x5_1 < (l0.length : Int)) = True := oT
       obtain ⟨ad407, e407, hx407_0, hx407_1⟩ := at_T82 HR0.out x5_1 oa oa
       obtain rfl : ad405 = ad407 := (by injection e407)
       replace hx407_0 := cB HB hx407_0
       replace hx407_1 := cB HB hx407_1
       try go_wp2
       go_roundg k1
       case measure => have := HK1.out; omega
       case rel => exact ⟨(wrap64 ((wrap64 (x1_1 + 1)) + 1)), (wrap64 (x5_1 + 1)), oS, oS, H', ⟨by have := HK1.out; omega⟩, ⟨oB⟩⟩
      ·rw [if_neg c7] at H
       have c7b0 : (((rd_T82 l0 x5_1).f1) == (wrap64 (x1_1 + 1))) = false := beq_eq_false_iff_ne.mpr c7
       have c7b1 : (((rd_T82 l0 x5_1).f1) != (wrap64 (x1_1 + 1))) = true := bne_iff_ne.mpr c7
       obtain rfl := Option.some.inj H
       try go_wp2
       replace HB := Aside0.mk (below_drew1 HB.out)
       have p405 : (0 ≤ (x5_1 : Int)) = True := oT
       have q405 : (x5_1 < (l0.length : Int)) = True := oT
       obtain ⟨ad405, e405, hx405_0, hx405_1⟩ := at_T82 HR0.out x5_1 oa oa
       have hw405_1 := hx405_1
       have hw405_0 := hx405_0
       cases e405
       replace hx405_0 := cB HB hx405_0
       replace hx405_1 := cB HB hx405_1
       refine st_ 8 (fun w' => w'.cell? (ad405.add ((x5_1).toNat * 2)) = some (.string ((rd_T82 l0 x5_1).f0)) ∧ w'.cell? ⟨(ad405.add ((x5_1).toNat * 2)).block, (ad405.add ((x5_1).toNat * 2)).off + 1, none⟩ = some (.int .i64 ((rd_T82 l0 x5_1).f1))) laws_heldEntS.tab4 laws_heldEntS.bits4 oH (fun hHeld HT_ HW_ => ?_)
       generalize wr.drew = w10 at HB hx405_0 hx405_1 hHeld ⊢
       refine pu_ 0 12 HT_ ?_
       refine pu_ 1 13 HT_ ?_
       refine pu_ 2 14 HT_ ?_
       refine pu_ 3 15 HT_ ?_
       refine pu_ 5 17 HT_ ?_
       refine ta_ 4 16 HT_ HW_ hHeld ?_
       refine on_ 6 18 HT_ (fun K hK => ?_)
       refine gr_ 18 Try.func85 (laws_markText.calls k1 x1_1 t406 _ A5.out) ?_
       rintro e w11 ⟨rfl, hb⟩
       refine ⟨_, rfl, ?_⟩
       replace HB := Aside0.mk (below_step oB hb)
       refine hk_ hK 18 oH (fun hHeld => ?_)
       clear hK K
       refine pu_ 7 19 HT_ ?_
       refine dn_ HT_ ?_
       have p407 : (0 ≤ (x5_1 : Int)) = True := oT
       have q407 : (x5_1 < (l0.length : Int)) = True := oT
       obtain ⟨ad407, e407, hx407_0, hx407_1⟩ := at_T82 HR0.out x5_1 oa oa
       obtain rfl : ad405 = ad407 := (by injection e407)
       replace hx407_0 := cB HB hx407_0
       replace hx407_1 := cB HB hx407_1
       try go_wp2
       go_ret
       exact ⟨oE, oB⟩
     ·rw [if_neg c6] at H
      have c6b0 : (((rd_T82 l0 x5_1).f0).toList == t406.toList) = false := beq_eq_false_iff_ne.mpr c6
      have c6b1 : (((rd_T82 l0 x5_1).f0).toList != t406.toList) = true := bne_iff_ne.mpr c6
      obtain rfl := Option.some.inj H
      try go_wp2
      replace HB := Aside0.mk (below_drew1 HB.out)
      have p405 : (0 ≤ (x5_1 : Int)) = True := oT
      have q405 : (x5_1 < (l0.length : Int)) = True := oT
      obtain ⟨ad405, e405, hx405_0, hx405_1⟩ := at_T82 HR0.out x5_1 oa oa
      have hw405_1 := hx405_1
      have hw405_0 := hx405_0
      cases e405
      replace hx405_0 := cB HB hx405_0
      replace hx405_1 := cB HB hx405_1
      refine st_ 8 (fun w' => w'.cell? (ad405.add ((x5_1).toNat * 2)) = some (.string ((rd_T82 l0 x5_1).f0)) ∧ w'.cell? ⟨(ad405.add ((x5_1).toNat * 2)).block, (ad405.add ((x5_1).toNat * 2)).off + 1, none⟩ = some (.int .i64 ((rd_T82 l0 x5_1).f1))) laws_heldEntS.tab4 laws_heldEntS.bits4 oH (fun hHeld HT_ HW_ => ?_)
      generalize wr.drew = w12 at HB hx405_0 hx405_1 hHeld ⊢
      refine pu_ 0 12 HT_ ?_
      refine pu_ 1 13 HT_ ?_
      refine pu_ 2 14 HT_ ?_
      refine pu_ 3 15 HT_ ?_
      refine pu_ 5 17 HT_ ?_
      refine ta_ 4 16 HT_ HW_ hHeld ?_
      refine on_ 6 18 HT_ (fun K hK => ?_)
      refine gr_ 18 Try.func85 (laws_markText.calls k1 x1_1 t406 _ A5.out) ?_
      rintro e w13 ⟨rfl, hb⟩
      refine ⟨_, rfl, ?_⟩
      replace HB := Aside0.mk (below_step oB hb)
      refine hk_ hK 18 oH (fun hHeld => ?_)
      clear hK K
      refine pu_ 7 19 HT_ ?_
      refine dn_ HT_ ?_
      try go_wp2
      go_ret
      exact ⟨oE, oB⟩
    ·cases H
   ·obtain rfl := Option.some.inj H
    go_wp2
    go_ret
    exact ⟨oE, oB⟩

/-! ### laws_heldAttrS: function 88 -/
def laws_heldAttrS.l0 : Nat → List (S90) → Int → Int → Option (Int)
 | 0, _, _, _ => none
 | k + 1, x0, x1, x5 => if x5 < (x0.length : Int) then (if 0 ≤ x5 then ((laws_markText.f k x1).bind fun t409 => (if ((rd_T90 x0 x5).f0).toList = t409.toList then ((laws_markText.f k (wrap64 (x1 + 1))).bind fun t411 => (if ((rd_T90 x0 x5).f1).toList = t411.toList then (laws_heldAttrS.l0 k x0 (wrap64 ((wrap64 (x1 + 1)) + 1)) (wrap64 (x5 + 1))) else (some (-1)))) else (some (-1)))) else (none)) else (some x1)
def laws_heldAttrS.f (k : Nat) (l0 : List (S90)) (a1 : Int) : Option (Int) := laws_heldAttrS.l0 k l0 a1 0
def laws_heldAttrS.T4 : Bool × List (List Nat × List Nat) := (true, [([], []), ([], []), ([0, 1], [0, 1]), ([2], [2]), ([3], [3]), ([], []), ([5], [5]), ([4, 6], [4, 6])])
def laws_heldAttrS.B4 : List Nat := [0, 0, 3, 7, 15, 0, 32, 127]
theorem laws_heldAttrS.tab4 : rtab .any (opsOf Try.f88 4) = laws_heldAttrS.T4 := by kernel_rfl
theorem laws_heldAttrS.bits4 : waitsOk laws_heldAttrS.T4.2 laws_heldAttrS.B4 = true := by kernel_rfl
def laws_heldAttrS.T7 : Bool × List (List Nat × List Nat) := (true, [([], []), ([], []), ([0, 1], [0, 1]), ([2], [2]), ([3], [3]), ([], []), ([5], [5]), ([4, 6], [4, 6])])
def laws_heldAttrS.B7 : List Nat := [0, 0, 3, 7, 15, 0, 32, 127]
theorem laws_heldAttrS.tab7 : rtab .any (opsOf Try.f88 7) = laws_heldAttrS.T7 := by kernel_rfl
theorem laws_heldAttrS.bits7 : waitsOk laws_heldAttrS.T7.2 laws_heldAttrS.B7 = true := by kernel_rfl
set_option maxHeartbeats 8000000 in
set_option maxRecDepth 100000 in
theorem laws_heldAttrS.calls (k : Nat) (A0 : Option Addr) (c0 : Nat) (l0 : List (S90)) (a1 : Int) (r : Int) (w : World) (hr0 : Kd.C k90 w A0 l0.length l0) (hc0 : l0.length ≤ c0) (h : laws_heldAttrS.f k l0 a1 = some r) :
  Calls Try.prog 88 #[.slice A0 l0.length c0, .int .i64 a1] w fun e w' => e = .returned (.int .i64 r) ∧ Below w.heap.size w w' := by
 have HR0 := Aside0.mk hr0
 have HC0 := Aside0.mk hc0
 clear hr0 hc0
 have HB := Aside0.mk (Below.refl w.heap.size w)
 unfold laws_heldAttrS.f at h
 have H := h
 clear h
 have H' := Aside0.mk H
 clear H
 go_enter Try.func88, Try.ntmps88
 go_wp2
 go_loopg [1, 5] k (fun kq v1 v5 w' => ∃ (x1_1 : Int) (x5_1 : Int), v1 = .int .i64 x1_1 ∧ v5 = .int .i64 x5_1 ∧ Aside0 (laws_heldAttrS.l0 kq l0 x1_1 x5_1 = some r) ∧ Aside0 (kq ≤ k) ∧ Aside0 (Below w.heap.size w w'))
 case atStart => exact ⟨(a1), (0), oS, oS, H', ⟨Nat.le_refl _⟩, ⟨oB⟩⟩
 case round =>
  clear H'
  obtain ⟨x1_1, x5_1, rfl, rfl, HA, HK1, HB⟩ := hrel
  cases gk with
  | zero => exact absurd HA.out (by simp [laws_heldAttrS.l0])
  | succ k1 =>
   have H := HA.out
   clear HA
   simp only [laws_heldAttrS.l0] at H
   replace H := itD H
   rcases H with ⟨c3b0, H⟩ | ⟨c3b0, H⟩
   ·replace H := itD H
    rcases H with ⟨c4b0, H⟩ | ⟨c4b0, H⟩
    ·replace H := bA H
     obtain ⟨t409, A5, H⟩ := H
     try dsimp only at H
     by_cases c6 : ((rd_T90 l0 x5_1).f0).toList = t409.toList
     ·rw [if_pos c6] at H
      have c6b0 : (((rd_T90 l0 x5_1).f0).toList == t409.toList) = true := beq_iff_eq.mpr c6
      have c6b1 : (((rd_T90 l0 x5_1).f0).toList != t409.toList) = false := bne_eq_false_iff_eq.mpr c6
      clear c6
      replace H := bA H
      obtain ⟨t411, A7, H⟩ := H
      try dsimp only at H
      by_cases c8 : ((rd_T90 l0 x5_1).f1).toList = t411.toList
      ·rw [if_pos c8] at H
       have c8b0 : (((rd_T90 l0 x5_1).f1).toList == t411.toList) = true := beq_iff_eq.mpr c8
       have c8b1 : (((rd_T90 l0 x5_1).f1).toList != t411.toList) = false := bne_eq_false_iff_eq.mpr c8
       clear c8
       have H' := Aside0.mk H
       clear H
       try go_wp2
       replace HB := Aside0.mk (below_drew1 HB.out)
       have p408 : (0 ≤ (x5_1 : Int)) = True := oT
       have q408 : (x5_1 < (l0.length : Int)) = True := oT
       obtain ⟨ad408, e408, hx408_0, hx408_1⟩ := at_T90 HR0.out x5_1 oa oa
       have hw408_1 := hx408_1
       have hw408_0 := hx408_0
       cases e408
       replace hx408_0 := cB HB hx408_0
       replace hx408_1 := cB HB hx408_1
       refine st_ 8 (fun w' => w'.cell? (ad408.add ((x5_1).toNat * 2)) = some (.string ((rd_T90 l0 x5_1).f0)) ∧ w'.cell? ⟨(ad408.add ((x5_1).toNat * 2)).block, (ad408.add ((x5_1).toNat * 2)).off + 1, none⟩ = some (.string ((rd_T90 l0 x5_1).f1))) laws_heldAttrS.tab4 laws_heldAttrS.bits4 oH (fun hHeld HT_ HW_ => ?_)
       generalize wr.drew = w9 at HB hx408_0 hx408_1 hHeld ⊢
       refine pu_ 0 12 HT_ ?_
       refine pu_ 1 13 HT_ ?_
       refine pu_ 2 14 HT_ ?_
       refine pu_ 3 15 HT_ ?_
       refine pu_ 5 17 HT_ ?_
       refine ta_ 4 16 HT_ HW_ hHeld ?_
       refine on_ 6 18 HT_ (fun K hK => ?_)
       refine gr_ 18 Try.func85 (laws_markText.calls k1 x1_1 t409 _ A5.out) ?_
       rintro e w10 ⟨rfl, hb⟩
       refine ⟨_, rfl, ?_⟩
       replace HB := Aside0.mk (below_step oB hb)
       refine hk_ hK 18 oH (fun hHeld => ?_)
       clear hK K
       refine pu_ 7 19 HT_ ?_
       refine dn_ HT_ ?_
       try go_wp2
       replace HB := Aside0.mk (below_drew1 HB.out)
       have p410 : (0 ≤ (x5_1 : Int)) = True := oT
       have q410 : (x5_1 < (l0.length : Int)) = True := oT
       obtain ⟨ad410, e410, hx410_0, hx410_1⟩ := at_T90 HR0.out x5_1 oa oa
       have hw410_1 := hx410_1
       have hw410_0 := hx410_0
       obtain rfl : ad408 = ad410 := (by injection e410)
       replace hx410_0 := cB HB hx410_0
       replace hx410_1 := cB HB hx410_1
       refine st_ 8 (fun w' => w'.cell? (ad408.add ((x5_1).toNat * 2)) = some (.string ((rd_T90 l0 x5_1).f0)) ∧ w'.cell? ⟨(ad408.add ((x5_1).toNat * 2)).block, (ad408.add ((x5_1).toNat * 2)).off + 1, none⟩ = some (.string ((rd_T90 l0 x5_1).f1))) laws_heldAttrS.tab7 laws_heldAttrS.bits7 oH (fun hHeld HT_ HW_ => ?_)
       generalize w10.drew = w11 at HB hx410_0 hx410_1 hHeld ⊢
       refine pu_ 0 22 HT_ ?_
       refine pu_ 1 23 HT_ ?_
       refine pu_ 2 24 HT_ ?_
       refine pu_ 3 25 HT_ ?_
       refine pu_ 5 27 HT_ ?_
       refine ta_ 4 26 HT_ HW_ hHeld ?_
       refine on_ 6 28 HT_ (fun K hK => ?_)
       refine gr_ 28 Try.func85 (laws_markText.calls k1 (wrap64 (x1_1 + 1)) t411 _ A7.out) ?_
       rintro e w12 ⟨rfl, hb⟩
       refine ⟨_, rfl, ?_⟩
       replace HB := Aside0.mk (below_step oB hb)
       refine hk_ hK 28 oH (fun hHeld => ?_)
       clear hK K
       refine pu_ 7 29 HT_ ?_
       refine dn_ HT_ ?_
       try go_wp2
       go_roundg k1
       case measure => have := HK1.out; omega
       case rel => exact ⟨(wrap64 ((wrap64 (x1_1 + 1)) + 1)), (wrap64 (x5_1 + 1)), oS, oS, H', ⟨by have := HK1.out; omega⟩, ⟨oB⟩⟩
      ·rw [if_neg c8] at H
       have c8b0 : (((rd_T90 l0 x5_1).f1).toList == t411.toList) = false := beq_eq_false_iff_ne.mpr c8
       have c8b1 : (((rd_T90 l0 x5_1).f1).toList != t411.toList) = true := bne_iff_ne.mpr c8
       obtain rfl := Option.some.inj H
       try go_wp2
       replace HB := Aside0.mk (below_drew1 HB.out)
       have p408 : (0 ≤ (x5_1 : Int)) = True := oT
       have q408 : (x5_1 < (l0.length : Int)) = True := oT
       obtain ⟨ad408, e408, hx408_0, hx408_1⟩ := at_T90 HR0.out x5_1 oa oa
       have hw408_1 := hx408_1
       have hw408_0 := hx408_0
       cases e408
       replace hx408_0 := cB HB hx408_0
       replace hx408_1 := cB HB hx408_1
       refine st_ 8 (fun w' => w'.cell? (ad408.add ((x5_1).toNat * 2)) = some (.string ((rd_T90 l0 x5_1).f0)) ∧ w'.cell? ⟨(ad408.add ((x5_1).toNat * 2)).block, (ad408.add ((x5_1).toNat * 2)).off + 1, none⟩ = some (.string ((rd_T90 l0 x5_1).f1))) laws_heldAttrS.tab4 laws_heldAttrS.bits4 oH (fun hHeld HT_ HW_ => ?_)
       generalize wr.drew = w13 at HB hx408_0 hx408_1 hHeld ⊢
       refine pu_ 0 12 HT_ ?_
       refine pu_ 1 13 HT_ ?_
       refine pu_ 2 14 HT_ ?_
       refine pu_ 3 15 HT_ ?_
       refine pu_ 5 17 HT_ ?_
       refine ta_ 4 16 HT_ HW_ hHeld ?_
       refine on_ 6 18 HT_ (fun K hK => ?_)
       refine gr_ 18 Try.func85 (laws_markText.calls k1 x1_1 t409 _ A5.out) ?_
       rintro e w14 ⟨rfl, hb⟩
       refine ⟨_, rfl, ?_⟩
       replace HB := Aside0.mk (below_step oB hb)
       refine hk_ hK 18 oH (fun hHeld => ?_)
       clear hK K
       refine pu_ 7 19 HT_ ?_
       refine dn_ HT_ ?_
       try go_wp2
       replace HB := Aside0.mk (below_drew1 HB.out)
       have p410 : (0 ≤ (x5_1 : Int)) = True := oT
       have q410 : (x5_1 < (l0.length : Int)) = True := oT
       obtain ⟨ad410, e410, hx410_0, hx410_1⟩ := at_T90 HR0.out x5_1 oa oa
       have hw410_1 := hx410_1
       have hw410_0 := hx410_0
       obtain rfl : ad408 = ad410 := (by injection e410)
       replace hx410_0 := cB HB hx410_0
       replace hx410_1 := cB HB hx410_1
       refine st_ 8 (fun w' => w'.cell? (ad408.add ((x5_1).toNat * 2)) = some (.string ((rd_T90 l0 x5_1).f0)) ∧ w'.cell? ⟨(ad408.add ((x5_1).toNat * 2)).block, (ad408.add ((x5_1).toNat * 2)).off + 1, none⟩ = some (.string ((rd_T90 l0 x5_1).f1))) laws_heldAttrS.tab7 laws_heldAttrS.bits7 oH (fun hHeld HT_ HW_ => ?_)
       generalize w14.drew = w15 at HB hx410_0 hx410_1 hHeld ⊢
       refine pu_ 0 22 HT_ ?_
       refine pu_ 1 23 HT_ ?_
       refine pu_ 2 24 HT_ ?_
       refine pu_ 3 25 HT_ ?_
       refine pu_ 5 27 HT_ ?_
       refine ta_ 4 26 HT_ HW_ hHeld ?_
       refine on_ 6 28 HT_ (fun K hK => ?_)
       refine gr_ 28 Try.func85 (laws_markText.calls k1 (wrap64 (x1_1 + 1)) t411 _ A7.out) ?_
       rintro e w16 ⟨rfl, hb⟩
       refine ⟨_, rfl, ?_⟩
       replace HB := Aside0.mk (below_step oB hb)
       refine hk_ hK 28 oH (fun hHeld => ?_)
       clear hK K
       refine pu_ 7 29 HT_ ?_
       refine dn_ HT_ ?_
       try go_wp2
       go_ret
       exact ⟨oE, oB⟩
     ·rw [if_neg c6] at H
      have c6b0 : (((rd_T90 l0 x5_1).f0).toList == t409.toList) = false := beq_eq_false_iff_ne.mpr c6
      have c6b1 : (((rd_T90 l0 x5_1).f0).toList != t409.toList) = true := bne_iff_ne.mpr c6
      obtain rfl := Option.some.inj H
      try go_wp2
      replace HB := Aside0.mk (below_drew1 HB.out)
      have p408 : (0 ≤ (x5_1 : Int)) = True := oT
      have q408 : (x5_1 < (l0.length : Int)) = True := oT
      obtain ⟨ad408, e408, hx408_0, hx408_1⟩ := at_T90 HR0.out x5_1 oa oa
      have hw408_1 := hx408_1
      have hw408_0 := hx408_0
      cases e408
      replace hx408_0 := cB HB hx408_0
      replace hx408_1 := cB HB hx408_1
      refine st_ 8 (fun w' => w'.cell? (ad408.add ((x5_1).toNat * 2)) = some (.string ((rd_T90 l0 x5_1).f0)) ∧ w'.cell? ⟨(ad408.add ((x5_1).toNat * 2)).block, (ad408.add ((x5_1).toNat * 2)).off + 1, none⟩ = some (.string ((rd_T90 l0 x5_1).f1))) laws_heldAttrS.tab4 laws_heldAttrS.bits4 oH (fun hHeld HT_ HW_ => ?_)
      generalize wr.drew = w17 at HB hx408_0 hx408_1 hHeld ⊢
      refine pu_ 0 12 HT_ ?_
      refine pu_ 1 13 HT_ ?_
      refine pu_ 2 14 HT_ ?_
      refine pu_ 3 15 HT_ ?_
      refine pu_ 5 17 HT_ ?_
      refine ta_ 4 16 HT_ HW_ hHeld ?_
      refine on_ 6 18 HT_ (fun K hK => ?_)
      refine gr_ 18 Try.func85 (laws_markText.calls k1 x1_1 t409 _ A5.out) ?_
      rintro e w18 ⟨rfl, hb⟩
      refine ⟨_, rfl, ?_⟩
      replace HB := Aside0.mk (below_step oB hb)
      refine hk_ hK 18 oH (fun hHeld => ?_)
      clear hK K
      refine pu_ 7 19 HT_ ?_
      refine dn_ HT_ ?_
      try go_wp2
      go_ret
      exact ⟨oE, oB⟩
    ·cases H
   ·obtain rfl := Option.some.inj H
    go_wp2
    go_ret
    exact ⟨oE, oB⟩

/-! ### laws_heldInodeS: function 56 -/
def laws_heldInodeS.l0 : Nat → List (S40) → Int → Int → Option (Int)
 | 0, _, _, _ => none
 | k + 1, x0, x1, x5 => if x5 < (x0.length : Int) then (if 0 ≤ x5 then (if ((rd_T40 x0 x5).f0) = x1 then (if ((rd_T40 x0 x5).f1) = (wrap64 (x1 + 1)) then (if ((rd_T40 x0 x5).f2) = (wrap64 ((wrap64 (x1 + 1)) + 1)) then ((laws_heldByteS.f k ((rd_T40 x0 x5).f3) (wrap64 ((wrap64 ((wrap64 (x1 + 1)) + 1)) + 1))).bind fun t416 => (if t416 < 0 then (some (-1)) else ((laws_heldEntS.f k ((rd_T40 x0 x5).f4) t416).bind fun t418 => (if t418 < 0 then (some (-1)) else ((laws_heldAttrS.f k ((rd_T40 x0 x5).f5) t418).bind fun t420 => (if t420 < 0 then (some (-1)) else (laws_heldInodeS.l0 k x0 t420 (wrap64 (x5 + 1))))))))) else (some (-1))) else (some (-1))) else (some (-1))) else (none)) else (some x1)
def laws_heldInodeS.f (k : Nat) (l0 : List (S40)) (a1 : Int) : Option (Int) := laws_heldInodeS.l0 k l0 a1 0
set_option maxHeartbeats 8000000 in
set_option maxRecDepth 100000 in
theorem laws_heldInodeS.calls (k : Nat) (A0 : Option Addr) (c0 : Nat) (l0 : List (S40)) (a1 : Int) (r : Int) (w : World) (hr0 : Kd.C k40 w A0 l0.length l0) (hc0 : l0.length ≤ c0) (h : laws_heldInodeS.f k l0 a1 = some r) :
  Calls Try.prog 56 #[.slice A0 l0.length c0, .int .i64 a1] w fun e w' => e = .returned (.int .i64 r) ∧ Below w.heap.size w w' := by
 have HR0 := Aside0.mk hr0
 have HC0 := Aside0.mk hc0
 clear hr0 hc0
 have HB := Aside0.mk (Below.refl w.heap.size w)
 unfold laws_heldInodeS.f at h
 have H := h
 clear h
 have H' := Aside0.mk H
 clear H
 go_enter Try.func56, Try.ntmps56
 go_wp2
 go_loopg [1, 5] k (fun kq v1 v5 w' => ∃ (x1_1 : Int) (x5_1 : Int), v1 = .int .i64 x1_1 ∧ v5 = .int .i64 x5_1 ∧ Aside0 (laws_heldInodeS.l0 kq l0 x1_1 x5_1 = some r) ∧ Aside0 (kq ≤ k) ∧ Aside0 (Below w.heap.size w w'))
 case atStart => exact ⟨(a1), (0), oS, oS, H', ⟨Nat.le_refl _⟩, ⟨oB⟩⟩
 case round =>
  clear H'
  obtain ⟨x1_1, x5_1, rfl, rfl, HA, HK1, HB⟩ := hrel
  cases gk with
  | zero => exact absurd HA.out (by simp [laws_heldInodeS.l0])
  | succ k1 =>
   have H := HA.out
   clear HA
   simp only [laws_heldInodeS.l0] at H
   replace H := itD H
   rcases H with ⟨c3b0, H⟩ | ⟨c3b0, H⟩
   ·replace H := itD H
    rcases H with ⟨c4b0, H⟩ | ⟨c4b0, H⟩
    ·by_cases c5 : ((rd_T40 l0 x5_1).f0) = x1_1
     ·rw [if_pos c5] at H
      have c5b0 : (((rd_T40 l0 x5_1).f0) == x1_1) = true := beq_iff_eq.mpr c5
      have c5b1 : (((rd_T40 l0 x5_1).f0) != x1_1) = false := bne_eq_false_iff_eq.mpr c5
      clear c5
      by_cases c6 : ((rd_T40 l0 x5_1).f1) = (wrap64 (x1_1 + 1))
      ·rw [if_pos c6] at H
       have c6b0 : (((rd_T40 l0 x5_1).f1) == (wrap64 (x1_1 + 1))) = true := beq_iff_eq.mpr c6
       have c6b1 : (((rd_T40 l0 x5_1).f1) != (wrap64 (x1_1 + 1))) = false := bne_eq_false_iff_eq.mpr c6
       clear c6
       by_cases c7 : ((rd_T40 l0 x5_1).f2) = (wrap64 ((wrap64 (x1_1 + 1)) + 1))
       ·rw [if_pos c7] at H
        have c7b0 : (((rd_T40 l0 x5_1).f2) == (wrap64 ((wrap64 (x1_1 + 1)) + 1))) = true := beq_iff_eq.mpr c7
        have c7b1 : (((rd_T40 l0 x5_1).f2) != (wrap64 ((wrap64 (x1_1 + 1)) + 1))) = false := bne_eq_false_iff_eq.mpr c7
        clear c7
        replace H := bA H
        obtain ⟨t416, A8, H⟩ := H
        try dsimp only at H
        replace H := itD H
        rcases H with ⟨c9b0, H⟩ | ⟨c9b0, H⟩
        ·obtain rfl := Option.some.inj H
         have p412 : (0 ≤ (x5_1 : Int)) = True := oT
         have q412 : (x5_1 < (l0.length : Int)) = True := oT
         obtain ⟨ad412, A412_3, c412_3, A412_4, c412_4, A412_5, c412_5, e412, hx412_0, hx412_1, hx412_2, hx412_3, hx412_4, hx412_5, hl412_3, hi412_3, hl412_4, hi412_4, hl412_5, hi412_5⟩ := at_T40 HR0.out x5_1 oa oa
         cases e412
         replace hx412_0 := cB HB hx412_0
         replace hx412_1 := cB HB hx412_1
         replace hx412_2 := cB HB hx412_2
         replace hx412_3 := cB HB hx412_3
         replace hx412_4 := cB HB hx412_4
         replace hx412_5 := cB HB hx412_5
         have HR412_3 := Aside0.mk hi412_3
         have HC412_3 := Aside0.mk hl412_3
         clear hi412_3 hl412_3
         have HR412_4 := Aside0.mk hi412_4
         have HC412_4 := Aside0.mk hl412_4
         clear hi412_4 hl412_4
         have HR412_5 := Aside0.mk hi412_5
         have HC412_5 := Aside0.mk hl412_5
         clear hi412_5 hl412_5
         have p413 : (0 ≤ (x5_1 : Int)) = True := oT
         have q413 : (x5_1 < (l0.length : Int)) = True := oT
         obtain ⟨ad413, A413_3, c413_3, A413_4, c413_4, A413_5, c413_5, e413, hx413_0, hx413_1, hx413_2, hx413_3, hx413_4, hx413_5, hl413_3, hi413_3, hl413_4, hi413_4, hl413_5, hi413_5⟩ := at_T40 HR0.out x5_1 oa oa
         obtain rfl : ad412 = ad413 := (by injection e413)
         replace hx413_0 := cB HB hx413_0
         replace hx413_1 := cB HB hx413_1
         replace hx413_2 := cB HB hx413_2
         replace hx413_3 := cB HB hx413_3
         replace hx413_4 := cB HB hx413_4
         replace hx413_5 := cB HB hx413_5
         have HR413_3 := Aside0.mk hi413_3
         have HC413_3 := Aside0.mk hl413_3
         clear hi413_3 hl413_3
         have HR413_4 := Aside0.mk hi413_4
         have HC413_4 := Aside0.mk hl413_4
         clear hi413_4 hl413_4
         have HR413_5 := Aside0.mk hi413_5
         have HC413_5 := Aside0.mk hl413_5
         clear hi413_5 hl413_5
         have ea_ := Option.some.inj (hx412_3.symm.trans hx413_3)
         injection ea_ with ea_ en_ ec_
         subst ea_
         subst ec_
         clear en_
         have ea_ := Option.some.inj (hx412_4.symm.trans hx413_4)
         injection ea_ with ea_ en_ ec_
         subst ea_
         subst ec_
         clear en_
         have ea_ := Option.some.inj (hx412_5.symm.trans hx413_5)
         injection ea_ with ea_ en_ ec_
         subst ea_
         subst ec_
         clear en_
         have p414 : (0 ≤ (x5_1 : Int)) = True := oT
         have q414 : (x5_1 < (l0.length : Int)) = True := oT
         obtain ⟨ad414, A414_3, c414_3, A414_4, c414_4, A414_5, c414_5, e414, hx414_0, hx414_1, hx414_2, hx414_3, hx414_4, hx414_5, hl414_3, hi414_3, hl414_4, hi414_4, hl414_5, hi414_5⟩ := at_T40 HR0.out x5_1 oa oa
         obtain rfl : ad412 = ad414 := (by injection e414)
         replace hx414_0 := cB HB hx414_0
         replace hx414_1 := cB HB hx414_1
         replace hx414_2 := cB HB hx414_2
         replace hx414_3 := cB HB hx414_3
         replace hx414_4 := cB HB hx414_4
         replace hx414_5 := cB HB hx414_5
         have HR414_3 := Aside0.mk hi414_3
         have HC414_3 := Aside0.mk hl414_3
         clear hi414_3 hl414_3
         have HR414_4 := Aside0.mk hi414_4
         have HC414_4 := Aside0.mk hl414_4
         clear hi414_4 hl414_4
         have HR414_5 := Aside0.mk hi414_5
         have HC414_5 := Aside0.mk hl414_5
         clear hi414_5 hl414_5
         have ea_ := Option.some.inj (hx412_3.symm.trans hx414_3)
         injection ea_ with ea_ en_ ec_
         subst ea_
         subst ec_
         clear en_
         have ea_ := Option.some.inj (hx412_4.symm.trans hx414_4)
         injection ea_ with ea_ en_ ec_
         subst ea_
         subst ec_
         clear en_
         have ea_ := Option.some.inj (hx412_5.symm.trans hx414_5)
         injection ea_ with ea_ en_ ec_
         subst ea_
         subst ec_
         clear en_
         have p415 : (0 ≤ (x5_1 : Int)) = True := oT
         have q415 : (x5_1 < (l0.length : Int)) = True := oT
         obtain ⟨ad415, A415_3, c415_3, A415_4, c415_4, A415_5, c415_5, e415, hx415_0, hx415_1, hx415_2, hx415_3, hx415_4, hx415_5, hl415_3, hi415_3, hl415_4, hi415_4, hl415_5, hi415_5⟩ := at_T40 HR0.out x5_1 oa oa
         obtain rfl : ad412 = ad415 := (by injection e415)
         replace hx415_0 := cB HB hx415_0
         replace hx415_1 := cB HB hx415_1
         replace hx415_2 := cB HB hx415_2
         replace hx415_3 := cB HB hx415_3
         replace hx415_4 := cB HB hx415_4
         replace hx415_5 := cB HB hx415_5
         have HR415_3 := Aside0.mk hi415_3
         have HC415_3 := Aside0.mk hl415_3
         clear hi415_3 hl415_3
         have HR415_4 := Aside0.mk hi415_4
         have HC415_4 := Aside0.mk hl415_4
         clear hi415_4 hl415_4
         have HR415_5 := Aside0.mk hi415_5
         have HC415_5 := Aside0.mk hl415_5
         clear hi415_5 hl415_5
         have ea_ := Option.some.inj (hx412_3.symm.trans hx415_3)
         injection ea_ with ea_ en_ ec_
         subst ea_
         subst ec_
         clear en_
         have ea_ := Option.some.inj (hx412_4.symm.trans hx415_4)
         injection ea_ with ea_ en_ ec_
         subst ea_
         subst ec_
         clear en_
         have ea_ := Option.some.inj (hx412_5.symm.trans hx415_5)
         injection ea_ with ea_ en_ ec_
         subst ea_
         subst ec_
         clear en_
         go_wp2_with (first | ((with_reducible refine gate_callee (f := 86) rfl ?_); refine gl_ 45 Try.func86 (laws_heldByteS.calls k1 _ _ ((rd_T40 l0 x5_1).f3) (wrap64 ((wrap64 ((wrap64 (x1_1 + 1)) + 1)) + 1)) t416 _ (kC HR415_3) HC415_3.out A8.out) ?_; rintro e w' ⟨rfl, ⟨nd, rfl⟩⟩; refine ⟨_, rfl, ?_⟩))
         go_ret
         exact ⟨oE, oB⟩
        ·replace H := bA H
         obtain ⟨t418, A10, H⟩ := H
         try dsimp only at H
         replace H := itD H
         rcases H with ⟨c11b0, H⟩ | ⟨c11b0, H⟩
         ·obtain rfl := Option.some.inj H
          have p412 : (0 ≤ (x5_1 : Int)) = True := oT
          have q412 : (x5_1 < (l0.length : Int)) = True := oT
          obtain ⟨ad412, A412_3, c412_3, A412_4, c412_4, A412_5, c412_5, e412, hx412_0, hx412_1, hx412_2, hx412_3, hx412_4, hx412_5, hl412_3, hi412_3, hl412_4, hi412_4, hl412_5, hi412_5⟩ := at_T40 HR0.out x5_1 oa oa
          cases e412
          replace hx412_0 := cB HB hx412_0
          replace hx412_1 := cB HB hx412_1
          replace hx412_2 := cB HB hx412_2
          replace hx412_3 := cB HB hx412_3
          replace hx412_4 := cB HB hx412_4
          replace hx412_5 := cB HB hx412_5
          have HR412_3 := Aside0.mk hi412_3
          have HC412_3 := Aside0.mk hl412_3
          clear hi412_3 hl412_3
          have HR412_4 := Aside0.mk hi412_4
          have HC412_4 := Aside0.mk hl412_4
          clear hi412_4 hl412_4
          have HR412_5 := Aside0.mk hi412_5
          have HC412_5 := Aside0.mk hl412_5
          clear hi412_5 hl412_5
          have p413 : (0 ≤ (x5_1 : Int)) = True := oT
          have q413 : (x5_1 < (l0.length : Int)) = True := oT
          obtain ⟨ad413, A413_3, c413_3, A413_4, c413_4, A413_5, c413_5, e413, hx413_0, hx413_1, hx413_2, hx413_3, hx413_4, hx413_5, hl413_3, hi413_3, hl413_4, hi413_4, hl413_5, hi413_5⟩ := at_T40 HR0.out x5_1 oa oa
          obtain rfl : ad412 = ad413 := (by injection e413)
          replace hx413_0 := cB HB hx413_0
          replace hx413_1 := cB HB hx413_1
          replace hx413_2 := cB HB hx413_2
          replace hx413_3 := cB HB hx413_3
          replace hx413_4 := cB HB hx413_4
          replace hx413_5 := cB HB hx413_5
          have HR413_3 := Aside0.mk hi413_3
          have HC413_3 := Aside0.mk hl413_3
          clear hi413_3 hl413_3
          have HR413_4 := Aside0.mk hi413_4
          have HC413_4 := Aside0.mk hl413_4
          clear hi413_4 hl413_4
          have HR413_5 := Aside0.mk hi413_5
          have HC413_5 := Aside0.mk hl413_5
          clear hi413_5 hl413_5
          have ea_ := Option.some.inj (hx412_3.symm.trans hx413_3)
          injection ea_ with ea_ en_ ec_
          subst ea_
          subst ec_
          clear en_
          have ea_ := Option.some.inj (hx412_4.symm.trans hx413_4)
          injection ea_ with ea_ en_ ec_
          subst ea_
          subst ec_
          clear en_
          have ea_ := Option.some.inj (hx412_5.symm.trans hx413_5)
          injection ea_ with ea_ en_ ec_
          subst ea_
          subst ec_
          clear en_
          have p414 : (0 ≤ (x5_1 : Int)) = True := oT
          have q414 : (x5_1 < (l0.length : Int)) = True := oT
          obtain ⟨ad414, A414_3, c414_3, A414_4, c414_4, A414_5, c414_5, e414, hx414_0, hx414_1, hx414_2, hx414_3, hx414_4, hx414_5, hl414_3, hi414_3, hl414_4, hi414_4, hl414_5, hi414_5⟩ := at_T40 HR0.out x5_1 oa oa
          obtain rfl : ad412 = ad414 := (by injection e414)
          replace hx414_0 := cB HB hx414_0
          replace hx414_1 := cB HB hx414_1
          replace hx414_2 := cB HB hx414_2
          replace hx414_3 := cB HB hx414_3
          replace hx414_4 := cB HB hx414_4
          replace hx414_5 := cB HB hx414_5
          have HR414_3 := Aside0.mk hi414_3
          have HC414_3 := Aside0.mk hl414_3
          clear hi414_3 hl414_3
          have HR414_4 := Aside0.mk hi414_4
          have HC414_4 := Aside0.mk hl414_4
          clear hi414_4 hl414_4
          have HR414_5 := Aside0.mk hi414_5
          have HC414_5 := Aside0.mk hl414_5
          clear hi414_5 hl414_5
          have ea_ := Option.some.inj (hx412_3.symm.trans hx414_3)
          injection ea_ with ea_ en_ ec_
          subst ea_
          subst ec_
          clear en_
          have ea_ := Option.some.inj (hx412_4.symm.trans hx414_4)
          injection ea_ with ea_ en_ ec_
          subst ea_
          subst ec_
          clear en_
          have ea_ := Option.some.inj (hx412_5.symm.trans hx414_5)
          injection ea_ with ea_ en_ ec_
          subst ea_
          subst ec_
          clear en_
          have p415 : (0 ≤ (x5_1 : Int)) = True := oT
          have q415 : (x5_1 < (l0.length : Int)) = True := oT
          obtain ⟨ad415, A415_3, c415_3, A415_4, c415_4, A415_5, c415_5, e415, hx415_0, hx415_1, hx415_2, hx415_3, hx415_4, hx415_5, hl415_3, hi415_3, hl415_4, hi415_4, hl415_5, hi415_5⟩ := at_T40 HR0.out x5_1 oa oa
          obtain rfl : ad412 = ad415 := (by injection e415)
          replace hx415_0 := cB HB hx415_0
          replace hx415_1 := cB HB hx415_1
          replace hx415_2 := cB HB hx415_2
          replace hx415_3 := cB HB hx415_3
          replace hx415_4 := cB HB hx415_4
          replace hx415_5 := cB HB hx415_5
          have HR415_3 := Aside0.mk hi415_3
          have HC415_3 := Aside0.mk hl415_3
          clear hi415_3 hl415_3
          have HR415_4 := Aside0.mk hi415_4
          have HC415_4 := Aside0.mk hl415_4
          clear hi415_4 hl415_4
          have HR415_5 := Aside0.mk hi415_5
          have HC415_5 := Aside0.mk hl415_5
          clear hi415_5 hl415_5
          have ea_ := Option.some.inj (hx412_3.symm.trans hx415_3)
          injection ea_ with ea_ en_ ec_
          subst ea_
          subst ec_
          clear en_
          have ea_ := Option.some.inj (hx412_4.symm.trans hx415_4)
          injection ea_ with ea_ en_ ec_
          subst ea_
          subst ec_
          clear en_
          have ea_ := Option.some.inj (hx412_5.symm.trans hx415_5)
          injection ea_ with ea_ en_ ec_
          subst ea_
          subst ec_
          clear en_
          go_wp2_with (first | ((with_reducible refine gate_callee (f := 86) rfl ?_); refine gl_ 45 Try.func86 (laws_heldByteS.calls k1 _ _ ((rd_T40 l0 x5_1).f3) (wrap64 ((wrap64 ((wrap64 (x1_1 + 1)) + 1)) + 1)) t416 _ (kC HR415_3) HC415_3.out A8.out) ?_; rintro e w' ⟨rfl, ⟨nd, rfl⟩⟩; refine ⟨_, rfl, ?_⟩; have p417 : (0 ≤ (x5_1 : Int)) = True := oT; have q417 : (x5_1 < (l0.length : Int)) = True := oT; obtain ⟨ad417, A417_3, c417_3, A417_4, c417_4, A417_5, c417_5, e417, hx417_0, hx417_1, hx417_2, hx417_3, hx417_4, hx417_5, hl417_3, hi417_3, hl417_4, hi417_4, hl417_5, hi417_5⟩ := at_T40 HR0.out x5_1 oa oa; obtain rfl : ad412 = ad417 := (by injection e417); replace hx417_0 := cB HB hx417_0; replace hx417_1 := cB HB hx417_1; replace hx417_2 := cB HB hx417_2; replace hx417_3 := cB HB hx417_3; replace hx417_4 := cB HB hx417_4; replace hx417_5 := cB HB hx417_5; have HR417_3 := Aside0.mk hi417_3; have HC417_3 := Aside0.mk hl417_3; clear hi417_3 hl417_3; have HR417_4 := Aside0.mk hi417_4; have HC417_4 := Aside0.mk hl417_4; clear hi417_4 hl417_4; have HR417_5 := Aside0.mk hi417_5; have HC417_5 := Aside0.mk hl417_5; clear hi417_5 hl417_5; have ea_ := Option.some.inj (hx412_3.symm.trans hx417_3); injection ea_ with ea_ en_ ec_; subst ea_; subst ec_; clear en_; have ea_ := Option.some.inj (hx412_4.symm.trans hx417_4); injection ea_ with ea_ en_ ec_; subst ea_; subst ec_; clear en_; have ea_ := Option.some.inj (hx412_5.symm.trans hx417_5); injection ea_ with ea_ en_ ec_; subst ea_; subst ec_; clear en_) | ((with_reducible refine gate_callee (f := 87) rfl ?_); refine gl_ 54 Try.func87 (laws_heldEntS.calls k1 _ _ ((rd_T40 l0 x5_1).f4) t416 t418 _ (kC HR417_4) HC417_4.out A10.out) ?_; rintro e w12 ⟨rfl, hb⟩; refine ⟨_, rfl, ?_⟩; replace HB := Aside0.mk (below_step oB hb)))
          go_ret
          exact ⟨oE, oB⟩
         ·replace H := bA H
          obtain ⟨t420, A13, H⟩ := H
          try dsimp only at H
          replace H := itD H
          rcases H with ⟨c14b0, H⟩ | ⟨c14b0, H⟩
          ·obtain rfl := Option.some.inj H
           have p412 : (0 ≤ (x5_1 : Int)) = True := oT
           have q412 : (x5_1 < (l0.length : Int)) = True := oT
           obtain ⟨ad412, A412_3, c412_3, A412_4, c412_4, A412_5, c412_5, e412, hx412_0, hx412_1, hx412_2, hx412_3, hx412_4, hx412_5, hl412_3, hi412_3, hl412_4, hi412_4, hl412_5, hi412_5⟩ := at_T40 HR0.out x5_1 oa oa
           cases e412
           replace hx412_0 := cB HB hx412_0
           replace hx412_1 := cB HB hx412_1
           replace hx412_2 := cB HB hx412_2
           replace hx412_3 := cB HB hx412_3
           replace hx412_4 := cB HB hx412_4
           replace hx412_5 := cB HB hx412_5
           have HR412_3 := Aside0.mk hi412_3
           have HC412_3 := Aside0.mk hl412_3
           clear hi412_3 hl412_3
           have HR412_4 := Aside0.mk hi412_4
           have HC412_4 := Aside0.mk hl412_4
           clear hi412_4 hl412_4
           have HR412_5 := Aside0.mk hi412_5
           have HC412_5 := Aside0.mk hl412_5
           clear hi412_5 hl412_5
           have p413 : (0 ≤ (x5_1 : Int)) = True := oT
           have q413 : (x5_1 < (l0.length : Int)) = True := oT
           obtain ⟨ad413, A413_3, c413_3, A413_4, c413_4, A413_5, c413_5, e413, hx413_0, hx413_1, hx413_2, hx413_3, hx413_4, hx413_5, hl413_3, hi413_3, hl413_4, hi413_4, hl413_5, hi413_5⟩ := at_T40 HR0.out x5_1 oa oa
           obtain rfl : ad412 = ad413 := (by injection e413)
           replace hx413_0 := cB HB hx413_0
           replace hx413_1 := cB HB hx413_1
           replace hx413_2 := cB HB hx413_2
           replace hx413_3 := cB HB hx413_3
           replace hx413_4 := cB HB hx413_4
           replace hx413_5 := cB HB hx413_5
           have HR413_3 := Aside0.mk hi413_3
           have HC413_3 := Aside0.mk hl413_3
           clear hi413_3 hl413_3
           have HR413_4 := Aside0.mk hi413_4
           have HC413_4 := Aside0.mk hl413_4
           clear hi413_4 hl413_4
           have HR413_5 := Aside0.mk hi413_5
           have HC413_5 := Aside0.mk hl413_5
           clear hi413_5 hl413_5
           have ea_ := Option.some.inj (hx412_3.symm.trans hx413_3)
           injection ea_ with ea_ en_ ec_
           subst ea_
           subst ec_
           clear en_
           have ea_ := Option.some.inj (hx412_4.symm.trans hx413_4)
           injection ea_ with ea_ en_ ec_
           subst ea_
           subst ec_
           clear en_
           have ea_ := Option.some.inj (hx412_5.symm.trans hx413_5)
           injection ea_ with ea_ en_ ec_
           subst ea_
           subst ec_
           clear en_
           have p414 : (0 ≤ (x5_1 : Int)) = True := oT
           have q414 : (x5_1 < (l0.length : Int)) = True := oT
           obtain ⟨ad414, A414_3, c414_3, A414_4, c414_4, A414_5, c414_5, e414, hx414_0, hx414_1, hx414_2, hx414_3, hx414_4, hx414_5, hl414_3, hi414_3, hl414_4, hi414_4, hl414_5, hi414_5⟩ := at_T40 HR0.out x5_1 oa oa
           obtain rfl : ad412 = ad414 := (by injection e414)
           replace hx414_0 := cB HB hx414_0
           replace hx414_1 := cB HB hx414_1
           replace hx414_2 := cB HB hx414_2
           replace hx414_3 := cB HB hx414_3
           replace hx414_4 := cB HB hx414_4
           replace hx414_5 := cB HB hx414_5
           have HR414_3 := Aside0.mk hi414_3
           have HC414_3 := Aside0.mk hl414_3
           clear hi414_3 hl414_3
           have HR414_4 := Aside0.mk hi414_4
           have HC414_4 := Aside0.mk hl414_4
           clear hi414_4 hl414_4
           have HR414_5 := Aside0.mk hi414_5
           have HC414_5 := Aside0.mk hl414_5
           clear hi414_5 hl414_5
           have ea_ := Option.some.inj (hx412_3.symm.trans hx414_3)
           injection ea_ with ea_ en_ ec_
           subst ea_
           subst ec_
           clear en_
           have ea_ := Option.some.inj (hx412_4.symm.trans hx414_4)
           injection ea_ with ea_ en_ ec_
           subst ea_
           subst ec_
           clear en_
           have ea_ := Option.some.inj (hx412_5.symm.trans hx414_5)
           injection ea_ with ea_ en_ ec_
           subst ea_
           subst ec_
           clear en_
           have p415 : (0 ≤ (x5_1 : Int)) = True := oT
           have q415 : (x5_1 < (l0.length : Int)) = True := oT
           obtain ⟨ad415, A415_3, c415_3, A415_4, c415_4, A415_5, c415_5, e415, hx415_0, hx415_1, hx415_2, hx415_3, hx415_4, hx415_5, hl415_3, hi415_3, hl415_4, hi415_4, hl415_5, hi415_5⟩ := at_T40 HR0.out x5_1 oa oa
           obtain rfl : ad412 = ad415 := (by injection e415)
           replace hx415_0 := cB HB hx415_0
           replace hx415_1 := cB HB hx415_1
           replace hx415_2 := cB HB hx415_2
           replace hx415_3 := cB HB hx415_3
           replace hx415_4 := cB HB hx415_4
           replace hx415_5 := cB HB hx415_5
           have HR415_3 := Aside0.mk hi415_3
           have HC415_3 := Aside0.mk hl415_3
           clear hi415_3 hl415_3
           have HR415_4 := Aside0.mk hi415_4
           have HC415_4 := Aside0.mk hl415_4
           clear hi415_4 hl415_4
           have HR415_5 := Aside0.mk hi415_5
           have HC415_5 := Aside0.mk hl415_5
           clear hi415_5 hl415_5
           have ea_ := Option.some.inj (hx412_3.symm.trans hx415_3)
           injection ea_ with ea_ en_ ec_
           subst ea_
           subst ec_
           clear en_
           have ea_ := Option.some.inj (hx412_4.symm.trans hx415_4)
           injection ea_ with ea_ en_ ec_
           subst ea_
           subst ec_
           clear en_
           have ea_ := Option.some.inj (hx412_5.symm.trans hx415_5)
           injection ea_ with ea_ en_ ec_
           subst ea_
           subst ec_
           clear en_
           go_wp2_with (first | ((with_reducible refine gate_callee (f := 86) rfl ?_); refine gl_ 45 Try.func86 (laws_heldByteS.calls k1 _ _ ((rd_T40 l0 x5_1).f3) (wrap64 ((wrap64 ((wrap64 (x1_1 + 1)) + 1)) + 1)) t416 _ (kC HR415_3) HC415_3.out A8.out) ?_; rintro e w' ⟨rfl, ⟨nd, rfl⟩⟩; refine ⟨_, rfl, ?_⟩; have p417 : (0 ≤ (x5_1 : Int)) = True := oT; have q417 : (x5_1 < (l0.length : Int)) = True := oT; obtain ⟨ad417, A417_3, c417_3, A417_4, c417_4, A417_5, c417_5, e417, hx417_0, hx417_1, hx417_2, hx417_3, hx417_4, hx417_5, hl417_3, hi417_3, hl417_4, hi417_4, hl417_5, hi417_5⟩ := at_T40 HR0.out x5_1 oa oa; obtain rfl : ad412 = ad417 := (by injection e417); replace hx417_0 := cB HB hx417_0; replace hx417_1 := cB HB hx417_1; replace hx417_2 := cB HB hx417_2; replace hx417_3 := cB HB hx417_3; replace hx417_4 := cB HB hx417_4; replace hx417_5 := cB HB hx417_5; have HR417_3 := Aside0.mk hi417_3; have HC417_3 := Aside0.mk hl417_3; clear hi417_3 hl417_3; have HR417_4 := Aside0.mk hi417_4; have HC417_4 := Aside0.mk hl417_4; clear hi417_4 hl417_4; have HR417_5 := Aside0.mk hi417_5; have HC417_5 := Aside0.mk hl417_5; clear hi417_5 hl417_5; have ea_ := Option.some.inj (hx412_3.symm.trans hx417_3); injection ea_ with ea_ en_ ec_; subst ea_; subst ec_; clear en_; have ea_ := Option.some.inj (hx412_4.symm.trans hx417_4); injection ea_ with ea_ en_ ec_; subst ea_; subst ec_; clear en_; have ea_ := Option.some.inj (hx412_5.symm.trans hx417_5); injection ea_ with ea_ en_ ec_; subst ea_; subst ec_; clear en_) | ((with_reducible refine gate_callee (f := 87) rfl ?_); refine gl_ 54 Try.func87 (laws_heldEntS.calls k1 _ _ ((rd_T40 l0 x5_1).f4) t416 t418 _ (kC HR417_4) HC417_4.out A10.out) ?_; rintro e w15 ⟨rfl, hb⟩; refine ⟨_, rfl, ?_⟩; replace HB := Aside0.mk (below_step oB hb); have p419 : (0 ≤ (x5_1 : Int)) = True := oT; have q419 : (x5_1 < (l0.length : Int)) = True := oT; obtain ⟨ad419, A419_3, c419_3, A419_4, c419_4, A419_5, c419_5, e419, hx419_0, hx419_1, hx419_2, hx419_3, hx419_4, hx419_5, hl419_3, hi419_3, hl419_4, hi419_4, hl419_5, hi419_5⟩ := at_T40 HR0.out x5_1 oa oa; obtain rfl : ad412 = ad419 := (by injection e419); replace hx419_0 := cB HB hx419_0; replace hx419_1 := cB HB hx419_1; replace hx419_2 := cB HB hx419_2; replace hx419_3 := cB HB hx419_3; replace hx419_4 := cB HB hx419_4; replace hx419_5 := cB HB hx419_5; have HR419_3 := Aside0.mk hi419_3; have HC419_3 := Aside0.mk hl419_3; clear hi419_3 hl419_3; have HR419_4 := Aside0.mk hi419_4; have HC419_4 := Aside0.mk hl419_4; clear hi419_4 hl419_4; have HR419_5 := Aside0.mk hi419_5; have HC419_5 := Aside0.mk hl419_5; clear hi419_5 hl419_5) | ((with_reducible refine gate_callee (f := 88) rfl ?_); refine gl_ 63 Try.func88 (laws_heldAttrS.calls k1 _ _ ((rd_T40 l0 x5_1).f5) t418 t420 _ (kC HR419_5) HC419_5.out A13.out) ?_; rintro e w16 ⟨rfl, hb⟩; refine ⟨_, rfl, ?_⟩; replace HB := Aside0.mk (below_step oB hb)))
           go_ret
           exact ⟨oE, oB⟩
          ·have H' := Aside0.mk H
           clear H
           have p412 : (0 ≤ (x5_1 : Int)) = True := oT
           have q412 : (x5_1 < (l0.length : Int)) = True := oT
           obtain ⟨ad412, A412_3, c412_3, A412_4, c412_4, A412_5, c412_5, e412, hx412_0, hx412_1, hx412_2, hx412_3, hx412_4, hx412_5, hl412_3, hi412_3, hl412_4, hi412_4, hl412_5, hi412_5⟩ := at_T40 HR0.out x5_1 oa oa
           cases e412
           replace hx412_0 := cB HB hx412_0
           replace hx412_1 := cB HB hx412_1
           replace hx412_2 := cB HB hx412_2
           replace hx412_3 := cB HB hx412_3
           replace hx412_4 := cB HB hx412_4
           replace hx412_5 := cB HB hx412_5
           have HR412_3 := Aside0.mk hi412_3
           have HC412_3 := Aside0.mk hl412_3
           clear hi412_3 hl412_3
           have HR412_4 := Aside0.mk hi412_4
           have HC412_4 := Aside0.mk hl412_4
           clear hi412_4 hl412_4
           have HR412_5 := Aside0.mk hi412_5
           have HC412_5 := Aside0.mk hl412_5
           clear hi412_5 hl412_5
           have p413 : (0 ≤ (x5_1 : Int)) = True := oT
           have q413 : (x5_1 < (l0.length : Int)) = True := oT
           obtain ⟨ad413, A413_3, c413_3, A413_4, c413_4, A413_5, c413_5, e413, hx413_0, hx413_1, hx413_2, hx413_3, hx413_4, hx413_5, hl413_3, hi413_3, hl413_4, hi413_4, hl413_5, hi413_5⟩ := at_T40 HR0.out x5_1 oa oa
           obtain rfl : ad412 = ad413 := (by injection e413)
           replace hx413_0 := cB HB hx413_0
           replace hx413_1 := cB HB hx413_1
           replace hx413_2 := cB HB hx413_2
           replace hx413_3 := cB HB hx413_3
           replace hx413_4 := cB HB hx413_4
           replace hx413_5 := cB HB hx413_5
           have HR413_3 := Aside0.mk hi413_3
           have HC413_3 := Aside0.mk hl413_3
           clear hi413_3 hl413_3
           have HR413_4 := Aside0.mk hi413_4
           have HC413_4 := Aside0.mk hl413_4
           clear hi413_4 hl413_4
           have HR413_5 := Aside0.mk hi413_5
           have HC413_5 := Aside0.mk hl413_5
           clear hi413_5 hl413_5
           have ea_ := Option.some.inj (hx412_3.symm.trans hx413_3)
           injection ea_ with ea_ en_ ec_
           subst ea_
           subst ec_
           clear en_
           have ea_ := Option.some.inj (hx412_4.symm.trans hx413_4)
           injection ea_ with ea_ en_ ec_
           subst ea_
           subst ec_
           clear en_
           have ea_ := Option.some.inj (hx412_5.symm.trans hx413_5)
           injection ea_ with ea_ en_ ec_
           subst ea_
           subst ec_
           clear en_
           have p414 : (0 ≤ (x5_1 : Int)) = True := oT
           have q414 : (x5_1 < (l0.length : Int)) = True := oT
           obtain ⟨ad414, A414_3, c414_3, A414_4, c414_4, A414_5, c414_5, e414, hx414_0, hx414_1, hx414_2, hx414_3, hx414_4, hx414_5, hl414_3, hi414_3, hl414_4, hi414_4, hl414_5, hi414_5⟩ := at_T40 HR0.out x5_1 oa oa
           obtain rfl : ad412 = ad414 := (by injection e414)
           replace hx414_0 := cB HB hx414_0
           replace hx414_1 := cB HB hx414_1
           replace hx414_2 := cB HB hx414_2
           replace hx414_3 := cB HB hx414_3
           replace hx414_4 := cB HB hx414_4
           replace hx414_5 := cB HB hx414_5
           have HR414_3 := Aside0.mk hi414_3
           have HC414_3 := Aside0.mk hl414_3
           clear hi414_3 hl414_3
           have HR414_4 := Aside0.mk hi414_4
           have HC414_4 := Aside0.mk hl414_4
           clear hi414_4 hl414_4
           have HR414_5 := Aside0.mk hi414_5
           have HC414_5 := Aside0.mk hl414_5
           clear hi414_5 hl414_5
           have ea_ := Option.some.inj (hx412_3.symm.trans hx414_3)
           injection ea_ with ea_ en_ ec_
           subst ea_
           subst ec_
           clear en_
           have ea_ := Option.some.inj (hx412_4.symm.trans hx414_4)
           injection ea_ with ea_ en_ ec_
           subst ea_
           subst ec_
           clear en_
           have ea_ := Option.some.inj (hx412_5.symm.trans hx414_5)
           injection ea_ with ea_ en_ ec_
           subst ea_
           subst ec_
           clear en_
           have p415 : (0 ≤ (x5_1 : Int)) = True := oT
           have q415 : (x5_1 < (l0.length : Int)) = True := oT
           obtain ⟨ad415, A415_3, c415_3, A415_4, c415_4, A415_5, c415_5, e415, hx415_0, hx415_1, hx415_2, hx415_3, hx415_4, hx415_5, hl415_3, hi415_3, hl415_4, hi415_4, hl415_5, hi415_5⟩ := at_T40 HR0.out x5_1 oa oa
           obtain rfl : ad412 = ad415 := (by injection e415)
           replace hx415_0 := cB HB hx415_0
           replace hx415_1 := cB HB hx415_1
           replace hx415_2 := cB HB hx415_2
           replace hx415_3 := cB HB hx415_3
           replace hx415_4 := cB HB hx415_4
           replace hx415_5 := cB HB hx415_5
           have HR415_3 := Aside0.mk hi415_3
           have HC415_3 := Aside0.mk hl415_3
           clear hi415_3 hl415_3
           have HR415_4 := Aside0.mk hi415_4
           have HC415_4 := Aside0.mk hl415_4
           clear hi415_4 hl415_4
           have HR415_5 := Aside0.mk hi415_5
           have HC415_5 := Aside0.mk hl415_5
           clear hi415_5 hl415_5
           have ea_ := Option.some.inj (hx412_3.symm.trans hx415_3)
           injection ea_ with ea_ en_ ec_
           subst ea_
           subst ec_
           clear en_
           have ea_ := Option.some.inj (hx412_4.symm.trans hx415_4)
           injection ea_ with ea_ en_ ec_
           subst ea_
           subst ec_
           clear en_
           have ea_ := Option.some.inj (hx412_5.symm.trans hx415_5)
           injection ea_ with ea_ en_ ec_
           subst ea_
           subst ec_
           clear en_
           go_wp2_with (first | ((with_reducible refine gate_callee (f := 86) rfl ?_); refine gl_ 45 Try.func86 (laws_heldByteS.calls k1 _ _ ((rd_T40 l0 x5_1).f3) (wrap64 ((wrap64 ((wrap64 (x1_1 + 1)) + 1)) + 1)) t416 _ (kC HR415_3) HC415_3.out A8.out) ?_; rintro e w' ⟨rfl, ⟨nd, rfl⟩⟩; refine ⟨_, rfl, ?_⟩; have p417 : (0 ≤ (x5_1 : Int)) = True := oT; have q417 : (x5_1 < (l0.length : Int)) = True := oT; obtain ⟨ad417, A417_3, c417_3, A417_4, c417_4, A417_5, c417_5, e417, hx417_0, hx417_1, hx417_2, hx417_3, hx417_4, hx417_5, hl417_3, hi417_3, hl417_4, hi417_4, hl417_5, hi417_5⟩ := at_T40 HR0.out x5_1 oa oa; obtain rfl : ad412 = ad417 := (by injection e417); replace hx417_0 := cB HB hx417_0; replace hx417_1 := cB HB hx417_1; replace hx417_2 := cB HB hx417_2; replace hx417_3 := cB HB hx417_3; replace hx417_4 := cB HB hx417_4; replace hx417_5 := cB HB hx417_5; have HR417_3 := Aside0.mk hi417_3; have HC417_3 := Aside0.mk hl417_3; clear hi417_3 hl417_3; have HR417_4 := Aside0.mk hi417_4; have HC417_4 := Aside0.mk hl417_4; clear hi417_4 hl417_4; have HR417_5 := Aside0.mk hi417_5; have HC417_5 := Aside0.mk hl417_5; clear hi417_5 hl417_5; have ea_ := Option.some.inj (hx412_3.symm.trans hx417_3); injection ea_ with ea_ en_ ec_; subst ea_; subst ec_; clear en_; have ea_ := Option.some.inj (hx412_4.symm.trans hx417_4); injection ea_ with ea_ en_ ec_; subst ea_; subst ec_; clear en_; have ea_ := Option.some.inj (hx412_5.symm.trans hx417_5); injection ea_ with ea_ en_ ec_; subst ea_; subst ec_; clear en_) | ((with_reducible refine gate_callee (f := 87) rfl ?_); refine gl_ 54 Try.func87 (laws_heldEntS.calls k1 _ _ ((rd_T40 l0 x5_1).f4) t416 t418 _ (kC HR417_4) HC417_4.out A10.out) ?_; rintro e w17 ⟨rfl, hb⟩; refine ⟨_, rfl, ?_⟩; replace HB := Aside0.mk (below_step oB hb); have p419 : (0 ≤ (x5_1 : Int)) = True := oT; have q419 : (x5_1 < (l0.length : Int)) = True := oT; obtain ⟨ad419, A419_3, c419_3, A419_4, c419_4, A419_5, c419_5, e419, hx419_0, hx419_1, hx419_2, hx419_3, hx419_4, hx419_5, hl419_3, hi419_3, hl419_4, hi419_4, hl419_5, hi419_5⟩ := at_T40 HR0.out x5_1 oa oa; obtain rfl : ad412 = ad419 := (by injection e419); replace hx419_0 := cB HB hx419_0; replace hx419_1 := cB HB hx419_1; replace hx419_2 := cB HB hx419_2; replace hx419_3 := cB HB hx419_3; replace hx419_4 := cB HB hx419_4; replace hx419_5 := cB HB hx419_5; have HR419_3 := Aside0.mk hi419_3; have HC419_3 := Aside0.mk hl419_3; clear hi419_3 hl419_3; have HR419_4 := Aside0.mk hi419_4; have HC419_4 := Aside0.mk hl419_4; clear hi419_4 hl419_4; have HR419_5 := Aside0.mk hi419_5; have HC419_5 := Aside0.mk hl419_5; clear hi419_5 hl419_5) | ((with_reducible refine gate_callee (f := 88) rfl ?_); refine gl_ 63 Try.func88 (laws_heldAttrS.calls k1 _ _ ((rd_T40 l0 x5_1).f5) t418 t420 _ (kC HR419_5) HC419_5.out A13.out) ?_; rintro e w18 ⟨rfl, hb⟩; refine ⟨_, rfl, ?_⟩; replace HB := Aside0.mk (below_step oB hb)))
           go_roundg k1
           case measure => have := HK1.out; omega
           case rel => exact ⟨(t420), (wrap64 (x5_1 + 1)), oS, oS, H', ⟨by have := HK1.out; omega⟩, ⟨oB⟩⟩
       ·rw [if_neg c7] at H
        have c7b0 : (((rd_T40 l0 x5_1).f2) == (wrap64 ((wrap64 (x1_1 + 1)) + 1))) = false := beq_eq_false_iff_ne.mpr c7
        have c7b1 : (((rd_T40 l0 x5_1).f2) != (wrap64 ((wrap64 (x1_1 + 1)) + 1))) = true := bne_iff_ne.mpr c7
        obtain rfl := Option.some.inj H
        have p412 : (0 ≤ (x5_1 : Int)) = True := oT
        have q412 : (x5_1 < (l0.length : Int)) = True := oT
        obtain ⟨ad412, A412_3, c412_3, A412_4, c412_4, A412_5, c412_5, e412, hx412_0, hx412_1, hx412_2, hx412_3, hx412_4, hx412_5, hl412_3, hi412_3, hl412_4, hi412_4, hl412_5, hi412_5⟩ := at_T40 HR0.out x5_1 oa oa
        cases e412
        replace hx412_0 := cB HB hx412_0
        replace hx412_1 := cB HB hx412_1
        replace hx412_2 := cB HB hx412_2
        replace hx412_3 := cB HB hx412_3
        replace hx412_4 := cB HB hx412_4
        replace hx412_5 := cB HB hx412_5
        have HR412_3 := Aside0.mk hi412_3
        have HC412_3 := Aside0.mk hl412_3
        clear hi412_3 hl412_3
        have HR412_4 := Aside0.mk hi412_4
        have HC412_4 := Aside0.mk hl412_4
        clear hi412_4 hl412_4
        have HR412_5 := Aside0.mk hi412_5
        have HC412_5 := Aside0.mk hl412_5
        clear hi412_5 hl412_5
        have p413 : (0 ≤ (x5_1 : Int)) = True := oT
        have q413 : (x5_1 < (l0.length : Int)) = True := oT
        obtain ⟨ad413, A413_3, c413_3, A413_4, c413_4, A413_5, c413_5, e413, hx413_0, hx413_1, hx413_2, hx413_3, hx413_4, hx413_5, hl413_3, hi413_3, hl413_4, hi413_4, hl413_5, hi413_5⟩ := at_T40 HR0.out x5_1 oa oa
        obtain rfl : ad412 = ad413 := (by injection e413)
        replace hx413_0 := cB HB hx413_0
        replace hx413_1 := cB HB hx413_1
        replace hx413_2 := cB HB hx413_2
        replace hx413_3 := cB HB hx413_3
        replace hx413_4 := cB HB hx413_4
        replace hx413_5 := cB HB hx413_5
        have HR413_3 := Aside0.mk hi413_3
        have HC413_3 := Aside0.mk hl413_3
        clear hi413_3 hl413_3
        have HR413_4 := Aside0.mk hi413_4
        have HC413_4 := Aside0.mk hl413_4
        clear hi413_4 hl413_4
        have HR413_5 := Aside0.mk hi413_5
        have HC413_5 := Aside0.mk hl413_5
        clear hi413_5 hl413_5
        have ea_ := Option.some.inj (hx412_3.symm.trans hx413_3)
        injection ea_ with ea_ en_ ec_
        subst ea_
        subst ec_
        clear en_
        have ea_ := Option.some.inj (hx412_4.symm.trans hx413_4)
        injection ea_ with ea_ en_ ec_
        subst ea_
        subst ec_
        clear en_
        have ea_ := Option.some.inj (hx412_5.symm.trans hx413_5)
        injection ea_ with ea_ en_ ec_
        subst ea_
        subst ec_
        clear en_
        have p414 : (0 ≤ (x5_1 : Int)) = True := oT
        have q414 : (x5_1 < (l0.length : Int)) = True := oT
        obtain ⟨ad414, A414_3, c414_3, A414_4, c414_4, A414_5, c414_5, e414, hx414_0, hx414_1, hx414_2, hx414_3, hx414_4, hx414_5, hl414_3, hi414_3, hl414_4, hi414_4, hl414_5, hi414_5⟩ := at_T40 HR0.out x5_1 oa oa
        obtain rfl : ad412 = ad414 := (by injection e414)
        replace hx414_0 := cB HB hx414_0
        replace hx414_1 := cB HB hx414_1
        replace hx414_2 := cB HB hx414_2
        replace hx414_3 := cB HB hx414_3
        replace hx414_4 := cB HB hx414_4
        replace hx414_5 := cB HB hx414_5
        have HR414_3 := Aside0.mk hi414_3
        have HC414_3 := Aside0.mk hl414_3
        clear hi414_3 hl414_3
        have HR414_4 := Aside0.mk hi414_4
        have HC414_4 := Aside0.mk hl414_4
        clear hi414_4 hl414_4
        have HR414_5 := Aside0.mk hi414_5
        have HC414_5 := Aside0.mk hl414_5
        clear hi414_5 hl414_5
        have ea_ := Option.some.inj (hx412_3.symm.trans hx414_3)
        injection ea_ with ea_ en_ ec_
        subst ea_
        subst ec_
        clear en_
        have ea_ := Option.some.inj (hx412_4.symm.trans hx414_4)
        injection ea_ with ea_ en_ ec_
        subst ea_
        subst ec_
        clear en_
        have ea_ := Option.some.inj (hx412_5.symm.trans hx414_5)
        injection ea_ with ea_ en_ ec_
        subst ea_
        subst ec_
        clear en_
        go_wp2
        go_ret
        exact ⟨oE, oB⟩
      ·rw [if_neg c6] at H
       have c6b0 : (((rd_T40 l0 x5_1).f1) == (wrap64 (x1_1 + 1))) = false := beq_eq_false_iff_ne.mpr c6
       have c6b1 : (((rd_T40 l0 x5_1).f1) != (wrap64 (x1_1 + 1))) = true := bne_iff_ne.mpr c6
       obtain rfl := Option.some.inj H
       have p412 : (0 ≤ (x5_1 : Int)) = True := oT
       have q412 : (x5_1 < (l0.length : Int)) = True := oT
       obtain ⟨ad412, A412_3, c412_3, A412_4, c412_4, A412_5, c412_5, e412, hx412_0, hx412_1, hx412_2, hx412_3, hx412_4, hx412_5, hl412_3, hi412_3, hl412_4, hi412_4, hl412_5, hi412_5⟩ := at_T40 HR0.out x5_1 oa oa
       cases e412
       replace hx412_0 := cB HB hx412_0
       replace hx412_1 := cB HB hx412_1
       replace hx412_2 := cB HB hx412_2
       replace hx412_3 := cB HB hx412_3
       replace hx412_4 := cB HB hx412_4
       replace hx412_5 := cB HB hx412_5
       have HR412_3 := Aside0.mk hi412_3
       have HC412_3 := Aside0.mk hl412_3
       clear hi412_3 hl412_3
       have HR412_4 := Aside0.mk hi412_4
       have HC412_4 := Aside0.mk hl412_4
       clear hi412_4 hl412_4
       have HR412_5 := Aside0.mk hi412_5
       have HC412_5 := Aside0.mk hl412_5
       clear hi412_5 hl412_5
       have p413 : (0 ≤ (x5_1 : Int)) = True := oT
       have q413 : (x5_1 < (l0.length : Int)) = True := oT
       obtain ⟨ad413, A413_3, c413_3, A413_4, c413_4, A413_5, c413_5, e413, hx413_0, hx413_1, hx413_2, hx413_3, hx413_4, hx413_5, hl413_3, hi413_3, hl413_4, hi413_4, hl413_5, hi413_5⟩ := at_T40 HR0.out x5_1 oa oa
       obtain rfl : ad412 = ad413 := (by injection e413)
       replace hx413_0 := cB HB hx413_0
       replace hx413_1 := cB HB hx413_1
       replace hx413_2 := cB HB hx413_2
       replace hx413_3 := cB HB hx413_3
       replace hx413_4 := cB HB hx413_4
       replace hx413_5 := cB HB hx413_5
       have HR413_3 := Aside0.mk hi413_3
       have HC413_3 := Aside0.mk hl413_3
       clear hi413_3 hl413_3
       have HR413_4 := Aside0.mk hi413_4
       have HC413_4 := Aside0.mk hl413_4
       clear hi413_4 hl413_4
       have HR413_5 := Aside0.mk hi413_5
       have HC413_5 := Aside0.mk hl413_5
       clear hi413_5 hl413_5
       have ea_ := Option.some.inj (hx412_3.symm.trans hx413_3)
       injection ea_ with ea_ en_ ec_
       subst ea_
       subst ec_
       clear en_
       have ea_ := Option.some.inj (hx412_4.symm.trans hx413_4)
       injection ea_ with ea_ en_ ec_
       subst ea_
       subst ec_
       clear en_
       have ea_ := Option.some.inj (hx412_5.symm.trans hx413_5)
       injection ea_ with ea_ en_ ec_
       subst ea_
       subst ec_
       clear en_
       go_wp2
       go_ret
       exact ⟨oE, oB⟩
     ·rw [if_neg c5] at H
      have c5b0 : (((rd_T40 l0 x5_1).f0) == x1_1) = false := beq_eq_false_iff_ne.mpr c5
      have c5b1 : (((rd_T40 l0 x5_1).f0) != x1_1) = true := bne_iff_ne.mpr c5
      obtain rfl := Option.some.inj H
      have p412 : (0 ≤ (x5_1 : Int)) = True := oT
      have q412 : (x5_1 < (l0.length : Int)) = True := oT
      obtain ⟨ad412, A412_3, c412_3, A412_4, c412_4, A412_5, c412_5, e412, hx412_0, hx412_1, hx412_2, hx412_3, hx412_4, hx412_5, hl412_3, hi412_3, hl412_4, hi412_4, hl412_5, hi412_5⟩ := at_T40 HR0.out x5_1 oa oa
      cases e412
      replace hx412_0 := cB HB hx412_0
      replace hx412_1 := cB HB hx412_1
      replace hx412_2 := cB HB hx412_2
      replace hx412_3 := cB HB hx412_3
      replace hx412_4 := cB HB hx412_4
      replace hx412_5 := cB HB hx412_5
      have HR412_3 := Aside0.mk hi412_3
      have HC412_3 := Aside0.mk hl412_3
      clear hi412_3 hl412_3
      have HR412_4 := Aside0.mk hi412_4
      have HC412_4 := Aside0.mk hl412_4
      clear hi412_4 hl412_4
      have HR412_5 := Aside0.mk hi412_5
      have HC412_5 := Aside0.mk hl412_5
      clear hi412_5 hl412_5
      go_wp2
      go_ret
      exact ⟨oE, oB⟩
    ·cases H
   ·obtain rfl := Option.some.inj H
    go_wp2
    go_ret
    exact ⟨oE, oB⟩

/-! ### laws_heldTab: function 17 -/
def laws_heldTab.f (k : Nat) (l0_0 : List (S40)) (a0_1 : Int) (a1 : Int) : Option (Int) := (laws_heldInodeS.f k l0_0 a1).bind fun t422 => (if t422 < 0 then (some (-1)) else (some t422))
set_option maxHeartbeats 8000000 in
set_option maxRecDepth 100000 in
theorem laws_heldTab.calls (k : Nat) (A0_0 : Option Addr) (c0_0 : Nat) (l0_0 : List (S40)) (a0_1 : Int) (a1 : Int) (r : Int) (w : World) (hr0_0 : Kd.C k40 w A0_0 l0_0.length l0_0) (hc0_0 : l0_0.length ≤ c0_0) (h : laws_heldTab.f k l0_0 a0_1 a1 = some r) :
  Calls Try.prog 17 #[.agg #[.slice A0_0 l0_0.length c0_0, .int .i64 a0_1], .int .i64 a1] w fun e w' => e = .returned (.int .i64 r) ∧ Below w.heap.size w w' := by
 have hu34 := Try.underlying34
 have HR0_0 := Aside0.mk hr0_0
 have HC0_0 := Aside0.mk hc0_0
 clear hr0_0 hc0_0
 have HB := Aside0.mk (Below.refl w.heap.size w)
 unfold laws_heldTab.f at h
 have H := h
 clear h
 replace H := bA H
 obtain ⟨t422, A3, H⟩ := H
 try dsimp only at H
 replace H := itD H
 rcases H with ⟨c4b0, H⟩ | ⟨c4b0, H⟩
 ·obtain rfl := Option.some.inj H
  go_enter Try.func17, Try.ntmps17
  go_wp2_with (first | ((with_reducible refine gate_dst (N := 2) rfl ?_); refine bx_ 2 #[.slice A0_0 l0_0.length c0_0, .int .i64 a0_1] 34 ?_; intro gb421 hg w5 hbox hb; have BK421 := Aside0.mk (hbox); have GW421 := gs_ hg; have GE421 := gs_ hg; replace HB := Aside0.mk (below_step oB hb); clear hb hbox hg; obtain ⟨⟨_, _⟩, _, _⟩ := z2 BK421) | ((with_reducible refine gate_callee (f := 56) rfl ?_); refine gl_ 8 Try.func56 (laws_heldInodeS.calls k _ _ l0_0 a1 t422 _ (kC HR0_0) HC0_0.out A3.out) ?_; rintro e w7 ⟨rfl, hb⟩; refine ⟨_, rfl, ?_⟩; replace BK421 := kb_ BK421 hb; replace HB := Aside0.mk (below_step oB hb)))
  go_ret
  exact ⟨oE, oB⟩
 ·obtain rfl := Option.some.inj H
  go_enter Try.func17, Try.ntmps17
  go_wp2_with (first | ((with_reducible refine gate_dst (N := 2) rfl ?_); refine bx_ 2 #[.slice A0_0 l0_0.length c0_0, .int .i64 a0_1] 34 ?_; intro gb421 hg w8 hbox hb; have BK421 := Aside0.mk (hbox); have GW421 := gs_ hg; have GE421 := gs_ hg; replace HB := Aside0.mk (below_step oB hb); clear hb hbox hg; obtain ⟨⟨_, _⟩, _, _⟩ := z2 BK421) | ((with_reducible refine gate_callee (f := 56) rfl ?_); refine gl_ 8 Try.func56 (laws_heldInodeS.calls k _ _ l0_0 a1 t422 _ (kC HR0_0) HC0_0.out A3.out) ?_; rintro e w10 ⟨rfl, hb⟩; refine ⟨_, rfl, ?_⟩; replace BK421 := kb_ BK421 hb; replace HB := Aside0.mk (below_step oB hb)))
  go_ret
  exact ⟨oE, oB⟩

theorem laws_heldTab.calls' (k : Nat) (A0_0 : Option Addr) (c0_0 n : Nat) (l0_0 : List S40) (a0_1 a1 r : Int) (w : World) (hn : l0_0.length = n) (hr0_0 : Kd.C k40 w A0_0 l0_0.length l0_0) (hc0_0 : l0_0.length ≤ c0_0) (h : laws_heldTab.f k l0_0 a0_1 a1 = some r) :
  Calls Try.prog 17 #[.agg #[.slice A0_0 n c0_0, .int .i64 a0_1], .int .i64 a1] w fun e w' => e = .returned (.int .i64 r) ∧ Below w.heap.size w w' := by
 subst hn
 exact laws_heldTab.calls k A0_0 c0_0 l0_0 a0_1 a1 r w hr0_0 hc0_0 h
end Go.Proofs.Ytmndnegpclaidaa.P
