-- By this session's own program (wip/myprint.py) out of the translation; Lean checks it.
import Derived.Test.YtkknehgaebhbeaaPx0
import Derived.Test.YtkknehgaebhbeaaPx1
namespace Go.Proofs.Ytkknehgaebhbeaa.P
open Go.RowKit Go.Proofs.YtkknehgaebhbeaaW.PrintWords Go.Proofs.YtkknehgaebhbeaaW.PrintLast Go.Proofs.YtkknehgaebhbeaaW.PrintMore
attribute [local go_sem] max2_int min2_int max_two min_two max_three min_three max_four min_four   -- for this text's walks alone
set_option linter.unusedVariables false
set_option linter.unusedSimpArgs false

/-! ### laws_markTab: function 26 -/
set_option maxHeartbeats 1000000 in
theorem laws_markTab.calls (k : Nat) (P0_ : Nat → Prop) (u : Value) (l0 : List S45) (a0 a1 r1 : Int) (r2 : List S45) (w0 w : World) (hB : Below w0.heap.size w0 w) (ho0 : Kd.S k45 45 w w0.heap.size P0_ u l0) (h : laws_markInodeS.f k l0 a1 = some (r1, r2)) :
  Calls Try.prog 26 #[.agg #[u, .int .i64 a0], .int .i64 a1] w fun e w' => e = .returned (.int .i64 r1) ∧ Kd.S k45 45 w' w0.heap.size (fun k_ => P0_ k_ ∨ w.heap.size ≤ k_) u r2 ∧ Below w0.heap.size w0 w' ∧ Kept w w' P0_ := by
 obtain ⟨A, co, rfl⟩ := Kd.S_slice ho0
 have HH := Aside0.mk h
 have hc := laws_markInodeS.calls k P0_ (.slice A l0.length co) l0 a1 r1 r2 w0 (w.alloc (.cells #[.slice A l0.length co, .int .i64 a0] 30)) (hB.alloc hB.size _) (Kd.S_alloc ho0 _) h
 have HC := Aside0.mk hc
 have HW := Aside0.mk hB.size
 clear h hc hB ho0
 go_enter Try.func26, Try.ntmps26
 go_wp2_with (go_at_call 71; refine HC.out.mono ?_; rintro e w1 ⟨rfl, hs, hb, hk⟩)
 go_ret
 exact ⟨rfl, Kd.S_mono hs (fun q hq => hq.imp_right (fun h => by simp at h; omega)), hb, (Kept.alloc (Kept.refl w P0_) _).then_ hk (fun q hq => .inl hq)⟩
/-! ### laws_heldByteS: function 50 -/
def laws_heldByteS.l0 : Nat → List Int → Int → Int → Option (Int)
 | 0, _, _, _ => none
 | k + 1, x0, x1, x5 => if x5 < (x0.length : Int) then (if 0 ≤ x5 then (if (rd x0 x5) = ((x1) % 256) then (laws_heldByteS.l0 k x0 (wrap64 (x1 + 1)) (wrap64 (x5 + 1))) else (some (-1))) else (none)) else (some x1)
def laws_heldByteS.f (k : Nat) (l0 : List Int) (a1 : Int) : Option (Int) := laws_heldByteS.l0 k l0 a1 0
set_option maxHeartbeats 8000000 in
set_option maxRecDepth 100000 in
theorem laws_heldByteS.calls (k : Nat) (A0 : Option Addr) (c0 : Nat) (l0 : List Int) (a1 : Int) (r : Int) (w : World) (hr0 : Kd.C (Kd.int .u8) w A0 l0.length l0) (hc0 : l0.length ≤ c0) (h : laws_heldByteS.f k l0 a1 = some r) :
  Calls Try.prog 50 #[.slice A0 l0.length c0, .int .i64 a1] w fun e w' => e = .returned (.int .i64 r) ∧ Drawn0 w w' := by
 have HR0 := Aside0.mk hr0
 have HC0 := Aside0.mk hc0
 clear hr0 hc0
 unfold laws_heldByteS.f at h
 have H := h
 clear h
 have H' := Aside0.mk H
 clear H
 go_enter Try.func50, Try.ntmps50
 go_wp2
 go_loopg [1, 5] k (fun kq v1 v5 w' => ∃ (x1_1 : Int) (x5_1 : Int), v1 = .int .i64 x1_1 ∧ v5 = .int .i64 x5_1 ∧ Aside0 (laws_heldByteS.l0 kq l0 x1_1 x5_1 = some r) ∧ Aside0 (kq ≤ k) ∧ Drawn0 w w')
 case atStart => exact ⟨(a1), (0), oS, oS, H', ⟨Nat.le_refl _⟩, oD⟩
 case round =>
  clear H'
  obtain ⟨x1_1, x5_1, rfl, rfl, HA, HK1, ⟨m1, rfl⟩⟩ := hrel
  cases gk with
  | zero => exact absurd HA.out (by simp [laws_heldByteS.l0])
  | succ k1 =>
   have H := HA.out
   clear HA
   simp only [laws_heldByteS.l0] at H
   replace H := itD H
   rcases H with ⟨c3b0, H⟩ | ⟨c3b0, H⟩
   ·replace H := itD H
    rcases H with ⟨c4b0, H⟩ | ⟨c4b0, H⟩
    ·by_cases c5 : (rd l0 x5_1) = ((x1_1) % 256)
     ·rw [if_pos c5] at H
      have c5b0 : ((rd l0 x5_1) == ((x1_1) % 256)) = true := beq_iff_eq.mpr c5
      have c5b1 : ((rd l0 x5_1) != ((x1_1) % 256)) = false := bne_eq_false_iff_eq.mpr c5
      clear c5
      have H' := Aside0.mk H
      clear H
      have p135 : (0 ≤ (x5_1 : Int)) = True := oT
      have q135 : (x5_1 < (l0.length : Int)) = True := oT
      obtain ⟨ad135, e135, hx135_0⟩ := Kd.at_int HR0.out x5_1 oa oa
      cases e135
      go_wp2
      go_roundg k1
      case measure => have := HK1.out; omega
      case rel => exact ⟨(wrap64 (x1_1 + 1)), (wrap64 (x5_1 + 1)), oS, oS, H', ⟨by have := HK1.out; omega⟩, oD⟩
     ·rw [if_neg c5] at H
      have c5b0 : ((rd l0 x5_1) == ((x1_1) % 256)) = false := beq_eq_false_iff_ne.mpr c5
      have c5b1 : ((rd l0 x5_1) != ((x1_1) % 256)) = true := bne_iff_ne.mpr c5
      obtain rfl := Option.some.inj H
      have p135 : (0 ≤ (x5_1 : Int)) = True := oT
      have q135 : (x5_1 < (l0.length : Int)) = True := oT
      obtain ⟨ad135, e135, hx135_0⟩ := Kd.at_int HR0.out x5_1 oa oa
      cases e135
      go_wp2
      go_ret
      exact ⟨oS, oD⟩
    ·cases H
   ·obtain rfl := Option.some.inj H
    go_wp2
    go_ret
    exact ⟨oS, oD⟩

/-! ### laws_heldEntS: function 105 -/
def laws_heldEntS.l0 : Nat → List (S83) → Int → Int → Option (Int)
 | 0, _, _, _ => none
 | k + 1, x0, x1, x5 => if x5 < (x0.length : Int) then (if 0 ≤ x5 then ((laws_markText.f k x1).bind fun t137 => (if ((rd_T83 x0 x5).f0).toList = t137.toList then (if ((rd_T83 x0 x5).f1) = (wrap64 (x1 + 1)) then (laws_heldEntS.l0 k x0 (wrap64 ((wrap64 (x1 + 1)) + 1)) (wrap64 (x5 + 1))) else (some (-1))) else (some (-1)))) else (none)) else (some x1)
def laws_heldEntS.f (k : Nat) (l0 : List (S83)) (a1 : Int) : Option (Int) := laws_heldEntS.l0 k l0 a1 0
def laws_heldEntS.T4 : Bool × List (List Nat × List Nat) := (true, [([], []), ([], []), ([0, 1], [0, 1]), ([2], [2]), ([3], [3]), ([], []), ([5], [5]), ([4, 6], [4, 6])])
def laws_heldEntS.B4 : List Nat := [0, 0, 3, 7, 15, 0, 32, 127]
theorem laws_heldEntS.tab4 : rtab .any (opsOf Try.f105 4) = laws_heldEntS.T4 := by kernel_rfl
theorem laws_heldEntS.bits4 : waitsOk laws_heldEntS.T4.2 laws_heldEntS.B4 = true := by kernel_rfl
set_option maxHeartbeats 8000000 in
set_option maxRecDepth 100000 in
theorem laws_heldEntS.calls (k : Nat) (A0 : Option Addr) (c0 : Nat) (l0 : List (S83)) (a1 : Int) (r : Int) (w : World) (hr0 : Kd.C k83 w A0 l0.length l0) (hc0 : l0.length ≤ c0) (h : laws_heldEntS.f k l0 a1 = some r) :
  Calls Try.prog 105 #[.slice A0 l0.length c0, .int .i64 a1] w fun e w' => e = .returned (.int .i64 r) ∧ Below w.heap.size w w' := by
 have HR0 := Aside0.mk hr0
 have HC0 := Aside0.mk hc0
 clear hr0 hc0
 have HB := Aside0.mk (Below.refl w.heap.size w)
 unfold laws_heldEntS.f at h
 have H := h
 clear h
 have H' := Aside0.mk H
 clear H
 go_enter Try.func105, Try.ntmps105
 go_wp2
 go_loopg [1, 5] k (fun kq v1 v5 w' => ∃ (x1_1 : Int) (x5_1 : Int), v1 = .int .i64 x1_1 ∧ v5 = .int .i64 x5_1 ∧ Aside0 (laws_heldEntS.l0 kq l0 x1_1 x5_1 = some r) ∧ Aside0 (kq ≤ k) ∧ Aside0 (Below w.heap.size w w'))
 case atStart => exact ⟨(a1), (0), oS, oS, H', ⟨Nat.le_refl _⟩, ⟨oB⟩⟩
 case round =>
  clear H'
  obtain ⟨x1_1, x5_1, rfl, rfl, HA, HK1, HB⟩ := hrel
  cases gk with
  | zero => exact absurd HA.out (by simp [laws_heldEntS.l0])
  | succ k1 =>
   have H := HA.out
   clear HA
   simp only [laws_heldEntS.l0] at H
   replace H := itD H
   rcases H with ⟨c3b0, H⟩ | ⟨c3b0, H⟩
   ·replace H := itD H
    rcases H with ⟨c4b0, H⟩ | ⟨c4b0, H⟩
    ·replace H := bA H
     obtain ⟨t137, A5, H⟩ := H
     try dsimp only at H
     by_cases c6 : ((rd_T83 l0 x5_1).f0).toList = t137.toList
     ·rw [if_pos c6] at H
      have c6b0 : (((rd_T83 l0 x5_1).f0).toList == t137.toList) = true := beq_iff_eq.mpr c6
      have c6b1 : (((rd_T83 l0 x5_1).f0).toList != t137.toList) = false := bne_eq_false_iff_eq.mpr c6
      clear c6
      by_cases c7 : ((rd_T83 l0 x5_1).f1) = (wrap64 (x1_1 + 1))
      ·rw [if_pos c7] at H
       have c7b0 : (((rd_T83 l0 x5_1).f1) == (wrap64 (x1_1 + 1))) = true := beq_iff_eq.mpr c7
       have c7b1 : (((rd_T83 l0 x5_1).f1) != (wrap64 (x1_1 + 1))) = false := bne_eq_false_iff_eq.mpr c7
       clear c7
       have H' := Aside0.mk H
       clear H
       try go_wp2
       replace HB := Aside0.mk (below_drew1 HB.out)
       have p136 : (0 ≤ (x5_1 : Int)) = True := oT
       have q136 : (x5_1 < (l0.length : Int)) = True := oT
       obtain ⟨ad136, e136, hx136_0, hx136_1⟩ := at_T83 HR0.out x5_1 oa oa
       have hw136_1 := hx136_1
       have hw136_0 := hx136_0
       cases e136
       replace hx136_0 := cB HB hx136_0
       replace hx136_1 := cB HB hx136_1
       refine st_ 8 (fun w' => w'.cell? (ad136.add ((x5_1).toNat * 2)) = some (.string ((rd_T83 l0 x5_1).f0)) ∧ w'.cell? ⟨(ad136.add ((x5_1).toNat * 2)).block, (ad136.add ((x5_1).toNat * 2)).off + 1, none⟩ = some (.int .i64 ((rd_T83 l0 x5_1).f1))) laws_heldEntS.tab4 laws_heldEntS.bits4 oH (fun hHeld HT_ HW_ => ?_)
       generalize wr.drew = w8 at HB hx136_0 hx136_1 hHeld ⊢
       refine pu_ 0 12 HT_ ?_
       refine pu_ 1 13 HT_ ?_
       refine pu_ 2 14 HT_ ?_
       refine pu_ 3 15 HT_ ?_
       refine pu_ 5 17 HT_ ?_
       refine ta_ 4 16 HT_ HW_ hHeld ?_
       refine on_ 6 18 HT_ (fun K hK => ?_)
       refine gr_ 18 Try.func132 (laws_markText.calls k1 x1_1 t137 _ A5.out) ?_
       rintro e w9 ⟨rfl, hb⟩
       refine ⟨_, rfl, ?_⟩
       replace HB := Aside0.mk (below_step oB hb)
       refine hk_ hK 18 oH (fun hHeld => ?_)
       clear hK K
       refine pu_ 7 19 HT_ ?_
       refine dn_ HT_ ?_
       have p138 : (0 ≤ (x5_1 : Int)) = True := oT
       have q138 : (x5_1 < (l0.length : Int)) = True := oT
       obtain ⟨ad138, e138, hx138_0, hx138_1⟩ := at_T83 HR0.out x5_1 oa oa
       obtain rfl : ad136 = ad138 := (by injection e138)
       replace hx138_0 := cB HB hx138_0
       replace hx138_1 := cB HB hx138_1
       try go_wp2
       go_roundg k1
       case measure => have := HK1.out; omega
       case rel => exact ⟨(wrap64 ((wrap64 (x1_1 + 1)) + 1)), (wrap64 (x5_1 + 1)), oS, oS, H', ⟨by have := HK1.out; omega⟩, ⟨oB⟩⟩
      ·rw [if_neg c7] at H
       have c7b0 : (((rd_T83 l0 x5_1).f1) == (wrap64 (x1_1 + 1))) = false := beq_eq_false_iff_ne.mpr c7
       have c7b1 : (((rd_T83 l0 x5_1).f1) != (wrap64 (x1_1 + 1))) = true := bne_iff_ne.mpr c7
       obtain rfl := Option.some.inj H
       try go_wp2
       replace HB := Aside0.mk (below_drew1 HB.out)
       have p136 : (0 ≤ (x5_1 : Int)) = True := oT
       have q136 : (x5_1 < (l0.length : Int)) = True := oT
       obtain ⟨ad136, e136, hx136_0, hx136_1⟩ := at_T83 HR0.out x5_1 oa oa
       have hw136_1 := hx136_1
       have hw136_0 := hx136_0
       cases e136
       replace hx136_0 := cB HB hx136_0
       replace hx136_1 := cB HB hx136_1
       refine st_ 8 (fun w' => w'.cell? (ad136.add ((x5_1).toNat * 2)) = some (.string ((rd_T83 l0 x5_1).f0)) ∧ w'.cell? ⟨(ad136.add ((x5_1).toNat * 2)).block, (ad136.add ((x5_1).toNat * 2)).off + 1, none⟩ = some (.int .i64 ((rd_T83 l0 x5_1).f1))) laws_heldEntS.tab4 laws_heldEntS.bits4 oH (fun hHeld HT_ HW_ => ?_)
       generalize wr.drew = w10 at HB hx136_0 hx136_1 hHeld ⊢
       refine pu_ 0 12 HT_ ?_
       refine pu_ 1 13 HT_ ?_
       refine pu_ 2 14 HT_ ?_
       refine pu_ 3 15 HT_ ?_
       refine pu_ 5 17 HT_ ?_
       refine ta_ 4 16 HT_ HW_ hHeld ?_
       refine on_ 6 18 HT_ (fun K hK => ?_)
       refine gr_ 18 Try.func132 (laws_markText.calls k1 x1_1 t137 _ A5.out) ?_
       rintro e w11 ⟨rfl, hb⟩
       refine ⟨_, rfl, ?_⟩
       replace HB := Aside0.mk (below_step oB hb)
       refine hk_ hK 18 oH (fun hHeld => ?_)
       clear hK K
       refine pu_ 7 19 HT_ ?_
       refine dn_ HT_ ?_
       have p138 : (0 ≤ (x5_1 : Int)) = True := oT
       have q138 : (x5_1 < (l0.length : Int)) = True := oT
       obtain ⟨ad138, e138, hx138_0, hx138_1⟩ := at_T83 HR0.out x5_1 oa oa
       obtain rfl : ad136 = ad138 := (by injection e138)
       replace hx138_0 := cB HB hx138_0
       replace hx138_1 := cB HB hx138_1
       try go_wp2
       go_ret
       exact ⟨oE, oB⟩
     ·rw [if_neg c6] at H
      have c6b0 : (((rd_T83 l0 x5_1).f0).toList == t137.toList) = false := beq_eq_false_iff_ne.mpr c6
      have c6b1 : (((rd_T83 l0 x5_1).f0).toList != t137.toList) = true := bne_iff_ne.mpr c6
      obtain rfl := Option.some.inj H
      try go_wp2
      replace HB := Aside0.mk (below_drew1 HB.out)
      have p136 : (0 ≤ (x5_1 : Int)) = True := oT
      have q136 : (x5_1 < (l0.length : Int)) = True := oT
      obtain ⟨ad136, e136, hx136_0, hx136_1⟩ := at_T83 HR0.out x5_1 oa oa
      have hw136_1 := hx136_1
      have hw136_0 := hx136_0
      cases e136
      replace hx136_0 := cB HB hx136_0
      replace hx136_1 := cB HB hx136_1
      refine st_ 8 (fun w' => w'.cell? (ad136.add ((x5_1).toNat * 2)) = some (.string ((rd_T83 l0 x5_1).f0)) ∧ w'.cell? ⟨(ad136.add ((x5_1).toNat * 2)).block, (ad136.add ((x5_1).toNat * 2)).off + 1, none⟩ = some (.int .i64 ((rd_T83 l0 x5_1).f1))) laws_heldEntS.tab4 laws_heldEntS.bits4 oH (fun hHeld HT_ HW_ => ?_)
      generalize wr.drew = w12 at HB hx136_0 hx136_1 hHeld ⊢
      refine pu_ 0 12 HT_ ?_
      refine pu_ 1 13 HT_ ?_
      refine pu_ 2 14 HT_ ?_
      refine pu_ 3 15 HT_ ?_
      refine pu_ 5 17 HT_ ?_
      refine ta_ 4 16 HT_ HW_ hHeld ?_
      refine on_ 6 18 HT_ (fun K hK => ?_)
      refine gr_ 18 Try.func132 (laws_markText.calls k1 x1_1 t137 _ A5.out) ?_
      rintro e w13 ⟨rfl, hb⟩
      refine ⟨_, rfl, ?_⟩
      replace HB := Aside0.mk (below_step oB hb)
      refine hk_ hK 18 oH (fun hHeld => ?_)
      clear hK K
      refine pu_ 7 19 HT_ ?_
      refine dn_ HT_ ?_
      try go_wp2
      go_ret
      exact ⟨oE, oB⟩
    ·cases H
   ·obtain rfl := Option.some.inj H
    go_wp2
    go_ret
    exact ⟨oE, oB⟩

/-! ### laws_heldAttrS: function 106 -/
def laws_heldAttrS.l0 : Nat → List (S85) → Int → Int → Option (Int)
 | 0, _, _, _ => none
 | k + 1, x0, x1, x5 => if x5 < (x0.length : Int) then (if 0 ≤ x5 then ((laws_markText.f k x1).bind fun t140 => (if ((rd_T85 x0 x5).f0).toList = t140.toList then ((laws_markText.f k (wrap64 (x1 + 1))).bind fun t142 => (if ((rd_T85 x0 x5).f1).toList = t142.toList then (laws_heldAttrS.l0 k x0 (wrap64 ((wrap64 (x1 + 1)) + 1)) (wrap64 (x5 + 1))) else (some (-1)))) else (some (-1)))) else (none)) else (some x1)
def laws_heldAttrS.f (k : Nat) (l0 : List (S85)) (a1 : Int) : Option (Int) := laws_heldAttrS.l0 k l0 a1 0
def laws_heldAttrS.T4 : Bool × List (List Nat × List Nat) := (true, [([], []), ([], []), ([0, 1], [0, 1]), ([2], [2]), ([3], [3]), ([], []), ([5], [5]), ([4, 6], [4, 6])])
def laws_heldAttrS.B4 : List Nat := [0, 0, 3, 7, 15, 0, 32, 127]
theorem laws_heldAttrS.tab4 : rtab .any (opsOf Try.f106 4) = laws_heldAttrS.T4 := by kernel_rfl
theorem laws_heldAttrS.bits4 : waitsOk laws_heldAttrS.T4.2 laws_heldAttrS.B4 = true := by kernel_rfl
def laws_heldAttrS.T7 : Bool × List (List Nat × List Nat) := (true, [([], []), ([], []), ([0, 1], [0, 1]), ([2], [2]), ([3], [3]), ([], []), ([5], [5]), ([4, 6], [4, 6])])
def laws_heldAttrS.B7 : List Nat := [0, 0, 3, 7, 15, 0, 32, 127]
theorem laws_heldAttrS.tab7 : rtab .any (opsOf Try.f106 7) = laws_heldAttrS.T7 := by kernel_rfl
theorem laws_heldAttrS.bits7 : waitsOk laws_heldAttrS.T7.2 laws_heldAttrS.B7 = true := by kernel_rfl
set_option maxHeartbeats 8000000 in
set_option maxRecDepth 100000 in
theorem laws_heldAttrS.calls (k : Nat) (A0 : Option Addr) (c0 : Nat) (l0 : List (S85)) (a1 : Int) (r : Int) (w : World) (hr0 : Kd.C k85 w A0 l0.length l0) (hc0 : l0.length ≤ c0) (h : laws_heldAttrS.f k l0 a1 = some r) :
  Calls Try.prog 106 #[.slice A0 l0.length c0, .int .i64 a1] w fun e w' => e = .returned (.int .i64 r) ∧ Below w.heap.size w w' := by
 have HR0 := Aside0.mk hr0
 have HC0 := Aside0.mk hc0
 clear hr0 hc0
 have HB := Aside0.mk (Below.refl w.heap.size w)
 unfold laws_heldAttrS.f at h
 have H := h
 clear h
 have H' := Aside0.mk H
 clear H
 go_enter Try.func106, Try.ntmps106
 go_wp2
 go_loopg [1, 5] k (fun kq v1 v5 w' => ∃ (x1_1 : Int) (x5_1 : Int), v1 = .int .i64 x1_1 ∧ v5 = .int .i64 x5_1 ∧ Aside0 (laws_heldAttrS.l0 kq l0 x1_1 x5_1 = some r) ∧ Aside0 (kq ≤ k) ∧ Aside0 (Below w.heap.size w w'))
 case atStart => exact ⟨(a1), (0), oS, oS, H', ⟨Nat.le_refl _⟩, ⟨oB⟩⟩
 case round =>
  clear H'
  obtain ⟨x1_1, x5_1, rfl, rfl, HA, HK1, HB⟩ := hrel
  cases gk with
  | zero => exact absurd HA.out (by simp [laws_heldAttrS.l0])
  | succ k1 =>
   have H := HA.out
   clear HA
   simp only [laws_heldAttrS.l0] at H
   replace H := itD H
   rcases H with ⟨c3b0, H⟩ | ⟨c3b0, H⟩
   ·replace H := itD H
    rcases H with ⟨c4b0, H⟩ | ⟨c4b0, H⟩
    ·replace H := bA H
     obtain ⟨t140, A5, H⟩ := H
     try dsimp only at H
     by_cases c6 : ((rd_T85 l0 x5_1).f0).toList = t140.toList
     ·rw [if_pos c6] at H
      have c6b0 : (((rd_T85 l0 x5_1).f0).toList == t140.toList) = true := beq_iff_eq.mpr c6
      have c6b1 : (((rd_T85 l0 x5_1).f0).toList != t140.toList) = false := bne_eq_false_iff_eq.mpr c6
      clear c6
      replace H := bA H
      obtain ⟨t142, A7, H⟩ := H
      try dsimp only at H
      by_cases c8 : ((rd_T85 l0 x5_1).f1).toList = t142.toList
      ·rw [if_pos c8] at H
       have c8b0 : (((rd_T85 l0 x5_1).f1).toList == t142.toList) = true := beq_iff_eq.mpr c8
       have c8b1 : (((rd_T85 l0 x5_1).f1).toList != t142.toList) = false := bne_eq_false_iff_eq.mpr c8
       clear c8
       have H' := Aside0.mk H
       clear H
       try go_wp2
       replace HB := Aside0.mk (below_drew1 HB.out)
       have p139 : (0 ≤ (x5_1 : Int)) = True := oT
       have q139 : (x5_1 < (l0.length : Int)) = True := oT
       obtain ⟨ad139, e139, hx139_0, hx139_1⟩ := at_T85 HR0.out x5_1 oa oa
       have hw139_1 := hx139_1
       have hw139_0 := hx139_0
       cases e139
       replace hx139_0 := cB HB hx139_0
       replace hx139_1 := cB HB hx139_1
       refine st_ 8 (fun w' => w'.cell? (ad139.add ((x5_1).toNat * 2)) = some (.string ((rd_T85 l0 x5_1).f0)) ∧ w'.cell? ⟨(ad139.add ((x5_1).toNat * 2)).block, (ad139.add ((x5_1).toNat * 2)).off + 1, none⟩ = some (.string ((rd_T85 l0 x5_1).f1))) laws_heldAttrS.tab4 laws_heldAttrS.bits4 oH (fun hHeld HT_ HW_ => ?_)
       generalize wr.drew = w9 at HB hx139_0 hx139_1 hHeld ⊢
       refine pu_ 0 12 HT_ ?_
       refine pu_ 1 13 HT_ ?_
       refine pu_ 2 14 HT_ ?_
       refine pu_ 3 15 HT_ ?_
       refine pu_ 5 17 HT_ ?_
       refine ta_ 4 16 HT_ HW_ hHeld ?_
       refine on_ 6 18 HT_ (fun K hK => ?_)
       refine gr_ 18 Try.func132 (laws_markText.calls k1 x1_1 t140 _ A5.out) ?_
       rintro e w10 ⟨rfl, hb⟩
       refine ⟨_, rfl, ?_⟩
       replace HB := Aside0.mk (below_step oB hb)
       refine hk_ hK 18 oH (fun hHeld => ?_)
       clear hK K
       refine pu_ 7 19 HT_ ?_
       refine dn_ HT_ ?_
       try go_wp2
       replace HB := Aside0.mk (below_drew1 HB.out)
       have p141 : (0 ≤ (x5_1 : Int)) = True := oT
       have q141 : (x5_1 < (l0.length : Int)) = True := oT
       obtain ⟨ad141, e141, hx141_0, hx141_1⟩ := at_T85 HR0.out x5_1 oa oa
       have hw141_1 := hx141_1
       have hw141_0 := hx141_0
       obtain rfl : ad139 = ad141 := (by injection e141)
       replace hx141_0 := cB HB hx141_0
       replace hx141_1 := cB HB hx141_1
       refine st_ 8 (fun w' => w'.cell? (ad139.add ((x5_1).toNat * 2)) = some (.string ((rd_T85 l0 x5_1).f0)) ∧ w'.cell? ⟨(ad139.add ((x5_1).toNat * 2)).block, (ad139.add ((x5_1).toNat * 2)).off + 1, none⟩ = some (.string ((rd_T85 l0 x5_1).f1))) laws_heldAttrS.tab7 laws_heldAttrS.bits7 oH (fun hHeld HT_ HW_ => ?_)
       generalize w10.drew = w11 at HB hx141_0 hx141_1 hHeld ⊢
       refine pu_ 0 22 HT_ ?_
       refine pu_ 1 23 HT_ ?_
       refine pu_ 2 24 HT_ ?_
       refine pu_ 3 25 HT_ ?_
       refine pu_ 5 27 HT_ ?_
       refine ta_ 4 26 HT_ HW_ hHeld ?_
       refine on_ 6 28 HT_ (fun K hK => ?_)
       refine gr_ 28 Try.func132 (laws_markText.calls k1 (wrap64 (x1_1 + 1)) t142 _ A7.out) ?_
       rintro e w12 ⟨rfl, hb⟩
       refine ⟨_, rfl, ?_⟩
       replace HB := Aside0.mk (below_step oB hb)
       refine hk_ hK 28 oH (fun hHeld => ?_)
       clear hK K
       refine pu_ 7 29 HT_ ?_
       refine dn_ HT_ ?_
       try go_wp2
       go_roundg k1
       case measure => have := HK1.out; omega
       case rel => exact ⟨(wrap64 ((wrap64 (x1_1 + 1)) + 1)), (wrap64 (x5_1 + 1)), oS, oS, H', ⟨by have := HK1.out; omega⟩, ⟨oB⟩⟩
      ·rw [if_neg c8] at H
       have c8b0 : (((rd_T85 l0 x5_1).f1).toList == t142.toList) = false := beq_eq_false_iff_ne.mpr c8
       have c8b1 : (((rd_T85 l0 x5_1).f1).toList != t142.toList) = true := bne_iff_ne.mpr c8
       obtain rfl := Option.some.inj H
       try go_wp2
       replace HB := Aside0.mk (below_drew1 HB.out)
       have p139 : (0 ≤ (x5_1 : Int)) = True := oT
       have q139 : (x5_1 < (l0.length : Int)) = True := oT
       obtain ⟨ad139, e139, hx139_0, hx139_1⟩ := at_T85 HR0.out x5_1 oa oa
       have hw139_1 := hx139_1
       have hw139_0 := hx139_0
       cases e139
       replace hx139_0 := cB HB hx139_0
       replace hx139_1 := cB HB hx139_1
       refine st_ 8 (fun w' => w'.cell? (ad139.add ((x5_1).toNat * 2)) = some (.string ((rd_T85 l0 x5_1).f0)) ∧ w'.cell? ⟨(ad139.add ((x5_1).toNat * 2)).block, (ad139.add ((x5_1).toNat * 2)).off + 1, none⟩ = some (.string ((rd_T85 l0 x5_1).f1))) laws_heldAttrS.tab4 laws_heldAttrS.bits4 oH (fun hHeld HT_ HW_ => ?_)
       generalize wr.drew = w13 at HB hx139_0 hx139_1 hHeld ⊢
       refine pu_ 0 12 HT_ ?_
       refine pu_ 1 13 HT_ ?_
       refine pu_ 2 14 HT_ ?_
       refine pu_ 3 15 HT_ ?_
       refine pu_ 5 17 HT_ ?_
       refine ta_ 4 16 HT_ HW_ hHeld ?_
       refine on_ 6 18 HT_ (fun K hK => ?_)
       refine gr_ 18 Try.func132 (laws_markText.calls k1 x1_1 t140 _ A5.out) ?_
       rintro e w14 ⟨rfl, hb⟩
       refine ⟨_, rfl, ?_⟩
       replace HB := Aside0.mk (below_step oB hb)
       refine hk_ hK 18 oH (fun hHeld => ?_)
       clear hK K
       refine pu_ 7 19 HT_ ?_
       refine dn_ HT_ ?_
       try go_wp2
       replace HB := Aside0.mk (below_drew1 HB.out)
       have p141 : (0 ≤ (x5_1 : Int)) = True := oT
       have q141 : (x5_1 < (l0.length : Int)) = True := oT
       obtain ⟨ad141, e141, hx141_0, hx141_1⟩ := at_T85 HR0.out x5_1 oa oa
       have hw141_1 := hx141_1
       have hw141_0 := hx141_0
       obtain rfl : ad139 = ad141 := (by injection e141)
       replace hx141_0 := cB HB hx141_0
       replace hx141_1 := cB HB hx141_1
       refine st_ 8 (fun w' => w'.cell? (ad139.add ((x5_1).toNat * 2)) = some (.string ((rd_T85 l0 x5_1).f0)) ∧ w'.cell? ⟨(ad139.add ((x5_1).toNat * 2)).block, (ad139.add ((x5_1).toNat * 2)).off + 1, none⟩ = some (.string ((rd_T85 l0 x5_1).f1))) laws_heldAttrS.tab7 laws_heldAttrS.bits7 oH (fun hHeld HT_ HW_ => ?_)
       generalize w14.drew = w15 at HB hx141_0 hx141_1 hHeld ⊢
       refine pu_ 0 22 HT_ ?_
       refine pu_ 1 23 HT_ ?_
       refine pu_ 2 24 HT_ ?_
       refine pu_ 3 25 HT_ ?_
       refine pu_ 5 27 HT_ ?_
       refine ta_ 4 26 HT_ HW_ hHeld ?_
       refine on_ 6 28 HT_ (fun K hK => ?_)
       refine gr_ 28 Try.func132 (laws_markText.calls k1 (wrap64 (x1_1 + 1)) t142 _ A7.out) ?_
       rintro e w16 ⟨rfl, hb⟩
       refine ⟨_, rfl, ?_⟩
       replace HB := Aside0.mk (below_step oB hb)
       refine hk_ hK 28 oH (fun hHeld => ?_)
       clear hK K
       refine pu_ 7 29 HT_ ?_
       refine dn_ HT_ ?_
       try go_wp2
       go_ret
       exact ⟨oE, oB⟩
     ·rw [if_neg c6] at H
      have c6b0 : (((rd_T85 l0 x5_1).f0).toList == t140.toList) = false := beq_eq_false_iff_ne.mpr c6
      have c6b1 : (((rd_T85 l0 x5_1).f0).toList != t140.toList) = true := bne_iff_ne.mpr c6
      obtain rfl := Option.some.inj H
      try go_wp2
      replace HB := Aside0.mk (below_drew1 HB.out)
      have p139 : (0 ≤ (x5_1 : Int)) = True := oT
      have q139 : (x5_1 < (l0.length : Int)) = True := oT
      obtain ⟨ad139, e139, hx139_0, hx139_1⟩ := at_T85 HR0.out x5_1 oa oa
      have hw139_1 := hx139_1
      have hw139_0 := hx139_0
      cases e139
      replace hx139_0 := cB HB hx139_0
      replace hx139_1 := cB HB hx139_1
      refine st_ 8 (fun w' => w'.cell? (ad139.add ((x5_1).toNat * 2)) = some (.string ((rd_T85 l0 x5_1).f0)) ∧ w'.cell? ⟨(ad139.add ((x5_1).toNat * 2)).block, (ad139.add ((x5_1).toNat * 2)).off + 1, none⟩ = some (.string ((rd_T85 l0 x5_1).f1))) laws_heldAttrS.tab4 laws_heldAttrS.bits4 oH (fun hHeld HT_ HW_ => ?_)
      generalize wr.drew = w17 at HB hx139_0 hx139_1 hHeld ⊢
      refine pu_ 0 12 HT_ ?_
      refine pu_ 1 13 HT_ ?_
      refine pu_ 2 14 HT_ ?_
      refine pu_ 3 15 HT_ ?_
      refine pu_ 5 17 HT_ ?_
      refine ta_ 4 16 HT_ HW_ hHeld ?_
      refine on_ 6 18 HT_ (fun K hK => ?_)
      refine gr_ 18 Try.func132 (laws_markText.calls k1 x1_1 t140 _ A5.out) ?_
      rintro e w18 ⟨rfl, hb⟩
      refine ⟨_, rfl, ?_⟩
      replace HB := Aside0.mk (below_step oB hb)
      refine hk_ hK 18 oH (fun hHeld => ?_)
      clear hK K
      refine pu_ 7 19 HT_ ?_
      refine dn_ HT_ ?_
      try go_wp2
      go_ret
      exact ⟨oE, oB⟩
    ·cases H
   ·obtain rfl := Option.some.inj H
    go_wp2
    go_ret
    exact ⟨oE, oB⟩

/-! ### laws_heldInodeS: function 72 -/
def laws_heldInodeS.l0 : Nat → List (S45) → Int → Int → Option (Int)
 | 0, _, _, _ => none
 | k + 1, x0, x1, x5 => if x5 < (x0.length : Int) then (if 0 ≤ x5 then (if ((rd_T45 x0 x5).f0) = x1 then (if ((rd_T45 x0 x5).f1) = (wrap64 (x1 + 1)) then (if ((rd_T45 x0 x5).f2) = (wrap64 ((wrap64 (x1 + 1)) + 1)) then ((laws_heldByteS.f k ((rd_T45 x0 x5).f3) (wrap64 ((wrap64 ((wrap64 (x1 + 1)) + 1)) + 1))).bind fun t147 => (if t147 < 0 then (some (-1)) else ((laws_heldEntS.f k ((rd_T45 x0 x5).f4) t147).bind fun t149 => (if t149 < 0 then (some (-1)) else ((laws_heldAttrS.f k ((rd_T45 x0 x5).f5) t149).bind fun t151 => (if t151 < 0 then (some (-1)) else (laws_heldInodeS.l0 k x0 t151 (wrap64 (x5 + 1))))))))) else (some (-1))) else (some (-1))) else (some (-1))) else (none)) else (some x1)
def laws_heldInodeS.f (k : Nat) (l0 : List (S45)) (a1 : Int) : Option (Int) := laws_heldInodeS.l0 k l0 a1 0
set_option maxHeartbeats 8000000 in
set_option maxRecDepth 100000 in
theorem laws_heldInodeS.calls (k : Nat) (A0 : Option Addr) (c0 : Nat) (l0 : List (S45)) (a1 : Int) (r : Int) (w : World) (hr0 : Kd.C k45 w A0 l0.length l0) (hc0 : l0.length ≤ c0) (h : laws_heldInodeS.f k l0 a1 = some r) :
  Calls Try.prog 72 #[.slice A0 l0.length c0, .int .i64 a1] w fun e w' => e = .returned (.int .i64 r) ∧ Below w.heap.size w w' := by
 have HR0 := Aside0.mk hr0
 have HC0 := Aside0.mk hc0
 clear hr0 hc0
 have HB := Aside0.mk (Below.refl w.heap.size w)
 unfold laws_heldInodeS.f at h
 have H := h
 clear h
 have H' := Aside0.mk H
 clear H
 go_enter Try.func72, Try.ntmps72
 go_wp2
 go_loopg [1, 5] k (fun kq v1 v5 w' => ∃ (x1_1 : Int) (x5_1 : Int), v1 = .int .i64 x1_1 ∧ v5 = .int .i64 x5_1 ∧ Aside0 (laws_heldInodeS.l0 kq l0 x1_1 x5_1 = some r) ∧ Aside0 (kq ≤ k) ∧ Aside0 (Below w.heap.size w w'))
 case atStart => exact ⟨(a1), (0), oS, oS, H', ⟨Nat.le_refl _⟩, ⟨oB⟩⟩
 case round =>
  clear H'
  obtain ⟨x1_1, x5_1, rfl, rfl, HA, HK1, HB⟩ := hrel
  cases gk with
  | zero => exact absurd HA.out (by simp [laws_heldInodeS.l0])
  | succ k1 =>
   have H := HA.out
   clear HA
   simp only [laws_heldInodeS.l0] at H
   replace H := itD H
   rcases H with ⟨c3b0, H⟩ | ⟨c3b0, H⟩
   ·replace H := itD H
    rcases H with ⟨c4b0, H⟩ | ⟨c4b0, H⟩
    ·by_cases c5 : ((rd_T45 l0 x5_1).f0) = x1_1
     ·rw [if_pos c5] at H
      have c5b0 : (((rd_T45 l0 x5_1).f0) == x1_1) = true := beq_iff_eq.mpr c5
      have c5b1 : (((rd_T45 l0 x5_1).f0) != x1_1) = false := bne_eq_false_iff_eq.mpr c5
      clear c5
      by_cases c6 : ((rd_T45 l0 x5_1).f1) = (wrap64 (x1_1 + 1))
      ·rw [if_pos c6] at H
       have c6b0 : (((rd_T45 l0 x5_1).f1) == (wrap64 (x1_1 + 1))) = true := beq_iff_eq.mpr c6
       have c6b1 : (((rd_T45 l0 x5_1).f1) != (wrap64 (x1_1 + 1))) = false := bne_eq_false_iff_eq.mpr c6
       clear c6
       by_cases c7 : ((rd_T45 l0 x5_1).f2) = (wrap64 ((wrap64 (x1_1 + 1)) + 1))
       ·rw [if_pos c7] at H
        have c7b0 : (((rd_T45 l0 x5_1).f2) == (wrap64 ((wrap64 (x1_1 + 1)) + 1))) = true := beq_iff_eq.mpr c7
        have c7b1 : (((rd_T45 l0 x5_1).f2) != (wrap64 ((wrap64 (x1_1 + 1)) + 1))) = false := bne_eq_false_iff_eq.mpr c7
        clear c7
        replace H := bA H
        obtain ⟨t147, A8, H⟩ := H
        try dsimp only at H
        replace H := itD H
        rcases H with ⟨c9b0, H⟩ | ⟨c9b0, H⟩
        ·obtain rfl := Option.some.inj H
         have p143 : (0 ≤ (x5_1 : Int)) = True := oT
         have q143 : (x5_1 < (l0.length : Int)) = True := oT
         obtain ⟨ad143, A143_3, c143_3, A143_4, c143_4, A143_5, c143_5, e143, hx143_0, hx143_1, hx143_2, hx143_3, hx143_4, hx143_5, hl143_3, hi143_3, hl143_4, hi143_4, hl143_5, hi143_5⟩ := at_T45 HR0.out x5_1 oa oa
         cases e143
         replace hx143_0 := cB HB hx143_0
         replace hx143_1 := cB HB hx143_1
         replace hx143_2 := cB HB hx143_2
         replace hx143_3 := cB HB hx143_3
         replace hx143_4 := cB HB hx143_4
         replace hx143_5 := cB HB hx143_5
         have HR143_3 := Aside0.mk hi143_3
         have HC143_3 := Aside0.mk hl143_3
         clear hi143_3 hl143_3
         have HR143_4 := Aside0.mk hi143_4
         have HC143_4 := Aside0.mk hl143_4
         clear hi143_4 hl143_4
         have HR143_5 := Aside0.mk hi143_5
         have HC143_5 := Aside0.mk hl143_5
         clear hi143_5 hl143_5
         have p144 : (0 ≤ (x5_1 : Int)) = True := oT
         have q144 : (x5_1 < (l0.length : Int)) = True := oT
         obtain ⟨ad144, A144_3, c144_3, A144_4, c144_4, A144_5, c144_5, e144, hx144_0, hx144_1, hx144_2, hx144_3, hx144_4, hx144_5, hl144_3, hi144_3, hl144_4, hi144_4, hl144_5, hi144_5⟩ := at_T45 HR0.out x5_1 oa oa
         obtain rfl : ad143 = ad144 := (by injection e144)
         replace hx144_0 := cB HB hx144_0
         replace hx144_1 := cB HB hx144_1
         replace hx144_2 := cB HB hx144_2
         replace hx144_3 := cB HB hx144_3
         replace hx144_4 := cB HB hx144_4
         replace hx144_5 := cB HB hx144_5
         have HR144_3 := Aside0.mk hi144_3
         have HC144_3 := Aside0.mk hl144_3
         clear hi144_3 hl144_3
         have HR144_4 := Aside0.mk hi144_4
         have HC144_4 := Aside0.mk hl144_4
         clear hi144_4 hl144_4
         have HR144_5 := Aside0.mk hi144_5
         have HC144_5 := Aside0.mk hl144_5
         clear hi144_5 hl144_5
         have ea_ := Option.some.inj (hx143_3.symm.trans hx144_3)
         injection ea_ with ea_ en_ ec_
         subst ea_
         subst ec_
         clear en_
         have ea_ := Option.some.inj (hx143_4.symm.trans hx144_4)
         injection ea_ with ea_ en_ ec_
         subst ea_
         subst ec_
         clear en_
         have ea_ := Option.some.inj (hx143_5.symm.trans hx144_5)
         injection ea_ with ea_ en_ ec_
         subst ea_
         subst ec_
         clear en_
         have p145 : (0 ≤ (x5_1 : Int)) = True := oT
         have q145 : (x5_1 < (l0.length : Int)) = True := oT
         obtain ⟨ad145, A145_3, c145_3, A145_4, c145_4, A145_5, c145_5, e145, hx145_0, hx145_1, hx145_2, hx145_3, hx145_4, hx145_5, hl145_3, hi145_3, hl145_4, hi145_4, hl145_5, hi145_5⟩ := at_T45 HR0.out x5_1 oa oa
         obtain rfl : ad143 = ad145 := (by injection e145)
         replace hx145_0 := cB HB hx145_0
         replace hx145_1 := cB HB hx145_1
         replace hx145_2 := cB HB hx145_2
         replace hx145_3 := cB HB hx145_3
         replace hx145_4 := cB HB hx145_4
         replace hx145_5 := cB HB hx145_5
         have HR145_3 := Aside0.mk hi145_3
         have HC145_3 := Aside0.mk hl145_3
         clear hi145_3 hl145_3
         have HR145_4 := Aside0.mk hi145_4
         have HC145_4 := Aside0.mk hl145_4
         clear hi145_4 hl145_4
         have HR145_5 := Aside0.mk hi145_5
         have HC145_5 := Aside0.mk hl145_5
         clear hi145_5 hl145_5
         have ea_ := Option.some.inj (hx143_3.symm.trans hx145_3)
         injection ea_ with ea_ en_ ec_
         subst ea_
         subst ec_
         clear en_
         have ea_ := Option.some.inj (hx143_4.symm.trans hx145_4)
         injection ea_ with ea_ en_ ec_
         subst ea_
         subst ec_
         clear en_
         have ea_ := Option.some.inj (hx143_5.symm.trans hx145_5)
         injection ea_ with ea_ en_ ec_
         subst ea_
         subst ec_
         clear en_
         have p146 : (0 ≤ (x5_1 : Int)) = True := oT
         have q146 : (x5_1 < (l0.length : Int)) = True := oT
         obtain ⟨ad146, A146_3, c146_3, A146_4, c146_4, A146_5, c146_5, e146, hx146_0, hx146_1, hx146_2, hx146_3, hx146_4, hx146_5, hl146_3, hi146_3, hl146_4, hi146_4, hl146_5, hi146_5⟩ := at_T45 HR0.out x5_1 oa oa
         obtain rfl : ad143 = ad146 := (by injection e146)
         replace hx146_0 := cB HB hx146_0
         replace hx146_1 := cB HB hx146_1
         replace hx146_2 := cB HB hx146_2
         replace hx146_3 := cB HB hx146_3
         replace hx146_4 := cB HB hx146_4
         replace hx146_5 := cB HB hx146_5
         have HR146_3 := Aside0.mk hi146_3
         have HC146_3 := Aside0.mk hl146_3
         clear hi146_3 hl146_3
         have HR146_4 := Aside0.mk hi146_4
         have HC146_4 := Aside0.mk hl146_4
         clear hi146_4 hl146_4
         have HR146_5 := Aside0.mk hi146_5
         have HC146_5 := Aside0.mk hl146_5
         clear hi146_5 hl146_5
         have ea_ := Option.some.inj (hx143_3.symm.trans hx146_3)
         injection ea_ with ea_ en_ ec_
         subst ea_
         subst ec_
         clear en_
         have ea_ := Option.some.inj (hx143_4.symm.trans hx146_4)
         injection ea_ with ea_ en_ ec_
         subst ea_
         subst ec_
         clear en_
         have ea_ := Option.some.inj (hx143_5.symm.trans hx146_5)
         injection ea_ with ea_ en_ ec_
         subst ea_
         subst ec_
         clear en_
         go_wp2_with (first | ((with_reducible refine gate_callee (f := 50) rfl ?_); refine gl_ 45 Try.func50 (laws_heldByteS.calls k1 _ _ ((rd_T45 l0 x5_1).f3) (wrap64 ((wrap64 ((wrap64 (x1_1 + 1)) + 1)) + 1)) t147 _ (kC HR146_3) HC146_3.out A8.out) ?_; rintro e w' ⟨rfl, ⟨nd, rfl⟩⟩; refine ⟨_, rfl, ?_⟩))
         go_ret
         exact ⟨oE, oB⟩
        ·replace H := bA H
         obtain ⟨t149, A10, H⟩ := H
         try dsimp only at H
         replace H := itD H
         rcases H with ⟨c11b0, H⟩ | ⟨c11b0, H⟩
         ·obtain rfl := Option.some.inj H
          have p143 : (0 ≤ (x5_1 : Int)) = True := oT
          have q143 : (x5_1 < (l0.length : Int)) = True := oT
          obtain ⟨ad143, A143_3, c143_3, A143_4, c143_4, A143_5, c143_5, e143, hx143_0, hx143_1, hx143_2, hx143_3, hx143_4, hx143_5, hl143_3, hi143_3, hl143_4, hi143_4, hl143_5, hi143_5⟩ := at_T45 HR0.out x5_1 oa oa
          cases e143
          replace hx143_0 := cB HB hx143_0
          replace hx143_1 := cB HB hx143_1
          replace hx143_2 := cB HB hx143_2
          replace hx143_3 := cB HB hx143_3
          replace hx143_4 := cB HB hx143_4
          replace hx143_5 := cB HB hx143_5
          have HR143_3 := Aside0.mk hi143_3
          have HC143_3 := Aside0.mk hl143_3
          clear hi143_3 hl143_3
          have HR143_4 := Aside0.mk hi143_4
          have HC143_4 := Aside0.mk hl143_4
          clear hi143_4 hl143_4
          have HR143_5 := Aside0.mk hi143_5
          have HC143_5 := Aside0.mk hl143_5
          clear hi143_5 hl143_5
          have p144 : (0 ≤ (x5_1 : Int)) = True := oT
          have q144 : (x5_1 < (l0.length : Int)) = True := oT
          obtain ⟨ad144, A144_3, c144_3, A144_4, c144_4, A144_5, c144_5, e144, hx144_0, hx144_1, hx144_2, hx144_3, hx144_4, hx144_5, hl144_3, hi144_3, hl144_4, hi144_4, hl144_5, hi144_5⟩ := at_T45 HR0.out x5_1 oa oa
          obtain rfl : ad143 = ad144 := (by injection e144)
          replace hx144_0 := cB HB hx144_0
          replace hx144_1 := cB HB hx144_1
          replace hx144_2 := cB HB hx144_2
          replace hx144_3 := cB HB hx144_3
          replace hx144_4 := cB HB hx144_4
          replace hx144_5 := cB HB hx144_5
          have HR144_3 := Aside0.mk hi144_3
          have HC144_3 := Aside0.mk hl144_3
          clear hi144_3 hl144_3
          have HR144_4 := Aside0.mk hi144_4
          have HC144_4 := Aside0.mk hl144_4
          clear hi144_4 hl144_4
          have HR144_5 := Aside0.mk hi144_5
          have HC144_5 := Aside0.mk hl144_5
          clear hi144_5 hl144_5
          have ea_ := Option.some.inj (hx143_3.symm.trans hx144_3)
          injection ea_ with ea_ en_ ec_
          subst ea_
          subst ec_
          clear en_
          have ea_ := Option.some.inj (hx143_4.symm.trans hx144_4)
          injection ea_ with ea_ en_ ec_
          subst ea_
          subst ec_
          clear en_
          have ea_ := Option.some.inj (hx143_5.symm.trans hx144_5)
          injection ea_ with ea_ en_ ec_
          subst ea_
          subst ec_
          clear en_
          have p145 : (0 ≤ (x5_1 : Int)) = True := oT
          have q145 : (x5_1 < (l0.length : Int)) = True := oT
          obtain ⟨ad145, A145_3, c145_3, A145_4, c145_4, A145_5, c145_5, e145, hx145_0, hx145_1, hx145_2, hx145_3, hx145_4, hx145_5, hl145_3, hi145_3, hl145_4, hi145_4, hl145_5, hi145_5⟩ := at_T45 HR0.out x5_1 oa oa
          obtain rfl : ad143 = ad145 := (by injection e145)
          replace hx145_0 := cB HB hx145_0
          replace hx145_1 := cB HB hx145_1
          replace hx145_2 := cB HB hx145_2
          replace hx145_3 := cB HB hx145_3
          replace hx145_4 := cB HB hx145_4
          replace hx145_5 := cB HB hx145_5
          have HR145_3 := Aside0.mk hi145_3
          have HC145_3 := Aside0.mk hl145_3
          clear hi145_3 hl145_3
          have HR145_4 := Aside0.mk hi145_4
          have HC145_4 := Aside0.mk hl145_4
          clear hi145_4 hl145_4
          have HR145_5 := Aside0.mk hi145_5
          have HC145_5 := Aside0.mk hl145_5
          clear hi145_5 hl145_5
          have ea_ := Option.some.inj (hx143_3.symm.trans hx145_3)
          injection ea_ with ea_ en_ ec_
          subst ea_
          subst ec_
          clear en_
          have ea_ := Option.some.inj (hx143_4.symm.trans hx145_4)
          injection ea_ with ea_ en_ ec_
          subst ea_
          subst ec_
          clear en_
          have ea_ := Option.some.inj (hx143_5.symm.trans hx145_5)
          injection ea_ with ea_ en_ ec_
          subst ea_
          subst ec_
          clear en_
          have p146 : (0 ≤ (x5_1 : Int)) = True := oT
          have q146 : (x5_1 < (l0.length : Int)) = True := oT
          obtain ⟨ad146, A146_3, c146_3, A146_4, c146_4, A146_5, c146_5, e146, hx146_0, hx146_1, hx146_2, hx146_3, hx146_4, hx146_5, hl146_3, hi146_3, hl146_4, hi146_4, hl146_5, hi146_5⟩ := at_T45 HR0.out x5_1 oa oa
          obtain rfl : ad143 = ad146 := (by injection e146)
          replace hx146_0 := cB HB hx146_0
          replace hx146_1 := cB HB hx146_1
          replace hx146_2 := cB HB hx146_2
          replace hx146_3 := cB HB hx146_3
          replace hx146_4 := cB HB hx146_4
          replace hx146_5 := cB HB hx146_5
          have HR146_3 := Aside0.mk hi146_3
          have HC146_3 := Aside0.mk hl146_3
          clear hi146_3 hl146_3
          have HR146_4 := Aside0.mk hi146_4
          have HC146_4 := Aside0.mk hl146_4
          clear hi146_4 hl146_4
          have HR146_5 := Aside0.mk hi146_5
          have HC146_5 := Aside0.mk hl146_5
          clear hi146_5 hl146_5
          have ea_ := Option.some.inj (hx143_3.symm.trans hx146_3)
          injection ea_ with ea_ en_ ec_
          subst ea_
          subst ec_
          clear en_
          have ea_ := Option.some.inj (hx143_4.symm.trans hx146_4)
          injection ea_ with ea_ en_ ec_
          subst ea_
          subst ec_
          clear en_
          have ea_ := Option.some.inj (hx143_5.symm.trans hx146_5)
          injection ea_ with ea_ en_ ec_
          subst ea_
          subst ec_
          clear en_
          go_wp2_with (first | ((with_reducible refine gate_callee (f := 50) rfl ?_); refine gl_ 45 Try.func50 (laws_heldByteS.calls k1 _ _ ((rd_T45 l0 x5_1).f3) (wrap64 ((wrap64 ((wrap64 (x1_1 + 1)) + 1)) + 1)) t147 _ (kC HR146_3) HC146_3.out A8.out) ?_; rintro e w' ⟨rfl, ⟨nd, rfl⟩⟩; refine ⟨_, rfl, ?_⟩; have p148 : (0 ≤ (x5_1 : Int)) = True := oT; have q148 : (x5_1 < (l0.length : Int)) = True := oT; obtain ⟨ad148, A148_3, c148_3, A148_4, c148_4, A148_5, c148_5, e148, hx148_0, hx148_1, hx148_2, hx148_3, hx148_4, hx148_5, hl148_3, hi148_3, hl148_4, hi148_4, hl148_5, hi148_5⟩ := at_T45 HR0.out x5_1 oa oa; obtain rfl : ad143 = ad148 := (by injection e148); replace hx148_0 := cB HB hx148_0; replace hx148_1 := cB HB hx148_1; replace hx148_2 := cB HB hx148_2; replace hx148_3 := cB HB hx148_3; replace hx148_4 := cB HB hx148_4; replace hx148_5 := cB HB hx148_5; have HR148_3 := Aside0.mk hi148_3; have HC148_3 := Aside0.mk hl148_3; clear hi148_3 hl148_3; have HR148_4 := Aside0.mk hi148_4; have HC148_4 := Aside0.mk hl148_4; clear hi148_4 hl148_4; have HR148_5 := Aside0.mk hi148_5; have HC148_5 := Aside0.mk hl148_5; clear hi148_5 hl148_5; have ea_ := Option.some.inj (hx143_3.symm.trans hx148_3); injection ea_ with ea_ en_ ec_; subst ea_; subst ec_; clear en_; have ea_ := Option.some.inj (hx143_4.symm.trans hx148_4); injection ea_ with ea_ en_ ec_; subst ea_; subst ec_; clear en_; have ea_ := Option.some.inj (hx143_5.symm.trans hx148_5); injection ea_ with ea_ en_ ec_; subst ea_; subst ec_; clear en_) | ((with_reducible refine gate_callee (f := 105) rfl ?_); refine gl_ 54 Try.func105 (laws_heldEntS.calls k1 _ _ ((rd_T45 l0 x5_1).f4) t147 t149 _ (kC HR148_4) HC148_4.out A10.out) ?_; rintro e w12 ⟨rfl, hb⟩; refine ⟨_, rfl, ?_⟩; replace HB := Aside0.mk (below_step oB hb)))
          go_ret
          exact ⟨oE, oB⟩
         ·replace H := bA H
          obtain ⟨t151, A13, H⟩ := H
          try dsimp only at H
          replace H := itD H
          rcases H with ⟨c14b0, H⟩ | ⟨c14b0, H⟩
          ·obtain rfl := Option.some.inj H
           have p143 : (0 ≤ (x5_1 : Int)) = True := oT
           have q143 : (x5_1 < (l0.length : Int)) = True := oT
           obtain ⟨ad143, A143_3, c143_3, A143_4, c143_4, A143_5, c143_5, e143, hx143_0, hx143_1, hx143_2, hx143_3, hx143_4, hx143_5, hl143_3, hi143_3, hl143_4, hi143_4, hl143_5, hi143_5⟩ := at_T45 HR0.out x5_1 oa oa
           cases e143
           replace hx143_0 := cB HB hx143_0
           replace hx143_1 := cB HB hx143_1
           replace hx143_2 := cB HB hx143_2
           replace hx143_3 := cB HB hx143_3
           replace hx143_4 := cB HB hx143_4
           replace hx143_5 := cB HB hx143_5
           have HR143_3 := Aside0.mk hi143_3
           have HC143_3 := Aside0.mk hl143_3
           clear hi143_3 hl143_3
           have HR143_4 := Aside0.mk hi143_4
           have HC143_4 := Aside0.mk hl143_4
           clear hi143_4 hl143_4
           have HR143_5 := Aside0.mk hi143_5
           have HC143_5 := Aside0.mk hl143_5
           clear hi143_5 hl143_5
           have p144 : (0 ≤ (x5_1 : Int)) = True := oT
           have q144 : (x5_1 < (l0.length : Int)) = True := oT
           obtain ⟨ad144, A144_3, c144_3, A144_4, c144_4, A144_5, c144_5, e144, hx144_0, hx144_1, hx144_2, hx144_3, hx144_4, hx144_5, hl144_3, hi144_3, hl144_4, hi144_4, hl144_5, hi144_5⟩ := at_T45 HR0.out x5_1 oa oa
           obtain rfl : ad143 = ad144 := (by injection e144)
           replace hx144_0 := cB HB hx144_0
           replace hx144_1 := cB HB hx144_1
           replace hx144_2 := cB HB hx144_2
           replace hx144_3 := cB HB hx144_3
           replace hx144_4 := cB HB hx144_4
           replace hx144_5 := cB HB hx144_5
           have HR144_3 := Aside0.mk hi144_3
           have HC144_3 := Aside0.mk hl144_3
           clear hi144_3 hl144_3
           have HR144_4 := Aside0.mk hi144_4
           have HC144_4 := Aside0.mk hl144_4
           clear hi144_4 hl144_4
           have HR144_5 := Aside0.mk hi144_5
           have HC144_5 := Aside0.mk hl144_5
           clear hi144_5 hl144_5
           have ea_ := Option.some.inj (hx143_3.symm.trans hx144_3)
           injection ea_ with ea_ en_ ec_
           subst ea_
           subst ec_
           clear en_
           have ea_ := Option.some.inj (hx143_4.symm.trans hx144_4)
           injection ea_ with ea_ en_ ec_
           subst ea_
           subst ec_
           clear en_
           have ea_ := Option.some.inj (hx143_5.symm.trans hx144_5)
           injection ea_ with ea_ en_ ec_
           subst ea_
           subst ec_
           clear en_
           have p145 : (0 ≤ (x5_1 : Int)) = True := oT
           have q145 : (x5_1 < (l0.length : Int)) = True := oT
           obtain ⟨ad145, A145_3, c145_3, A145_4, c145_4, A145_5, c145_5, e145, hx145_0, hx145_1, hx145_2, hx145_3, hx145_4, hx145_5, hl145_3, hi145_3, hl145_4, hi145_4, hl145_5, hi145_5⟩ := at_T45 HR0.out x5_1 oa oa
           obtain rfl : ad143 = ad145 := (by injection e145)
           replace hx145_0 := cB HB hx145_0
           replace hx145_1 := cB HB hx145_1
           replace hx145_2 := cB HB hx145_2
           replace hx145_3 := cB HB hx145_3
           replace hx145_4 := cB HB hx145_4
           replace hx145_5 := cB HB hx145_5
           have HR145_3 := Aside0.mk hi145_3
           have HC145_3 := Aside0.mk hl145_3
           clear hi145_3 hl145_3
           have HR145_4 := Aside0.mk hi145_4
           have HC145_4 := Aside0.mk hl145_4
           clear hi145_4 hl145_4
           have HR145_5 := Aside0.mk hi145_5
           have HC145_5 := Aside0.mk hl145_5
           clear hi145_5 hl145_5
           have ea_ := Option.some.inj (hx143_3.symm.trans hx145_3)
           injection ea_ with ea_ en_ ec_
           subst ea_
           subst ec_
           clear en_
           have ea_ := Option.some.inj (hx143_4.symm.trans hx145_4)
           injection ea_ with ea_ en_ ec_
           subst ea_
           subst ec_
           clear en_
           have ea_ := Option.some.inj (hx143_5.symm.trans hx145_5)
           injection ea_ with ea_ en_ ec_
           subst ea_
           subst ec_
           clear en_
           have p146 : (0 ≤ (x5_1 : Int)) = True := oT
           have q146 : (x5_1 < (l0.length : Int)) = True := oT
           obtain ⟨ad146, A146_3, c146_3, A146_4, c146_4, A146_5, c146_5, e146, hx146_0, hx146_1, hx146_2, hx146_3, hx146_4, hx146_5, hl146_3, hi146_3, hl146_4, hi146_4, hl146_5, hi146_5⟩ := at_T45 HR0.out x5_1 oa oa
           obtain rfl : ad143 = ad146 := (by injection e146)
           replace hx146_0 := cB HB hx146_0
           replace hx146_1 := cB HB hx146_1
           replace hx146_2 := cB HB hx146_2
           replace hx146_3 := cB HB hx146_3
           replace hx146_4 := cB HB hx146_4
           replace hx146_5 := cB HB hx146_5
           have HR146_3 := Aside0.mk hi146_3
           have HC146_3 := Aside0.mk hl146_3
           clear hi146_3 hl146_3
           have HR146_4 := Aside0.mk hi146_4
           have HC146_4 := Aside0.mk hl146_4
           clear hi146_4 hl146_4
           have HR146_5 := Aside0.mk hi146_5
           have HC146_5 := Aside0.mk hl146_5
           clear hi146_5 hl146_5
           have ea_ := Option.some.inj (hx143_3.symm.trans hx146_3)
           injection ea_ with ea_ en_ ec_
           subst ea_
           subst ec_
           clear en_
           have ea_ := Option.some.inj (hx143_4.symm.trans hx146_4)
           injection ea_ with ea_ en_ ec_
           subst ea_
           subst ec_
           clear en_
           have ea_ := Option.some.inj (hx143_5.symm.trans hx146_5)
           injection ea_ with ea_ en_ ec_
           subst ea_
           subst ec_
           clear en_
           go_wp2_with (first | ((with_reducible refine gate_callee (f := 50) rfl ?_); refine gl_ 45 Try.func50 (laws_heldByteS.calls k1 _ _ ((rd_T45 l0 x5_1).f3) (wrap64 ((wrap64 ((wrap64 (x1_1 + 1)) + 1)) + 1)) t147 _ (kC HR146_3) HC146_3.out A8.out) ?_; rintro e w' ⟨rfl, ⟨nd, rfl⟩⟩; refine ⟨_, rfl, ?_⟩; have p148 : (0 ≤ (x5_1 : Int)) = True := oT; have q148 : (x5_1 < (l0.length : Int)) = True := oT; obtain ⟨ad148, A148_3, c148_3, A148_4, c148_4, A148_5, c148_5, e148, hx148_0, hx148_1, hx148_2, hx148_3, hx148_4, hx148_5, hl148_3, hi148_3, hl148_4, hi148_4, hl148_5, hi148_5⟩ := at_T45 HR0.out x5_1 oa oa; obtain rfl : ad143 = ad148 := (by injection e148); replace hx148_0 := cB HB hx148_0; replace hx148_1 := cB HB hx148_1; replace hx148_2 := cB HB hx148_2; replace hx148_3 := cB HB hx148_3; replace hx148_4 := cB HB hx148_4; replace hx148_5 := cB HB hx148_5; have HR148_3 := Aside0.mk hi148_3; have HC148_3 := Aside0.mk hl148_3; clear hi148_3 hl148_3; have HR148_4 := Aside0.mk hi148_4; have HC148_4 := Aside0.mk hl148_4; clear hi148_4 hl148_4; have HR148_5 := Aside0.mk hi148_5; have HC148_5 := Aside0.mk hl148_5; clear hi148_5 hl148_5; have ea_ := Option.some.inj (hx143_3.symm.trans hx148_3); injection ea_ with ea_ en_ ec_; subst ea_; subst ec_; clear en_; have ea_ := Option.some.inj (hx143_4.symm.trans hx148_4); injection ea_ with ea_ en_ ec_; subst ea_; subst ec_; clear en_; have ea_ := Option.some.inj (hx143_5.symm.trans hx148_5); injection ea_ with ea_ en_ ec_; subst ea_; subst ec_; clear en_) | ((with_reducible refine gate_callee (f := 105) rfl ?_); refine gl_ 54 Try.func105 (laws_heldEntS.calls k1 _ _ ((rd_T45 l0 x5_1).f4) t147 t149 _ (kC HR148_4) HC148_4.out A10.out) ?_; rintro e w15 ⟨rfl, hb⟩; refine ⟨_, rfl, ?_⟩; replace HB := Aside0.mk (below_step oB hb); have p150 : (0 ≤ (x5_1 : Int)) = True := oT; have q150 : (x5_1 < (l0.length : Int)) = True := oT; obtain ⟨ad150, A150_3, c150_3, A150_4, c150_4, A150_5, c150_5, e150, hx150_0, hx150_1, hx150_2, hx150_3, hx150_4, hx150_5, hl150_3, hi150_3, hl150_4, hi150_4, hl150_5, hi150_5⟩ := at_T45 HR0.out x5_1 oa oa; obtain rfl : ad143 = ad150 := (by injection e150); replace hx150_0 := cB HB hx150_0; replace hx150_1 := cB HB hx150_1; replace hx150_2 := cB HB hx150_2; replace hx150_3 := cB HB hx150_3; replace hx150_4 := cB HB hx150_4; replace hx150_5 := cB HB hx150_5; have HR150_3 := Aside0.mk hi150_3; have HC150_3 := Aside0.mk hl150_3; clear hi150_3 hl150_3; have HR150_4 := Aside0.mk hi150_4; have HC150_4 := Aside0.mk hl150_4; clear hi150_4 hl150_4; have HR150_5 := Aside0.mk hi150_5; have HC150_5 := Aside0.mk hl150_5; clear hi150_5 hl150_5) | ((with_reducible refine gate_callee (f := 106) rfl ?_); refine gl_ 63 Try.func106 (laws_heldAttrS.calls k1 _ _ ((rd_T45 l0 x5_1).f5) t149 t151 _ (kC HR150_5) HC150_5.out A13.out) ?_; rintro e w16 ⟨rfl, hb⟩; refine ⟨_, rfl, ?_⟩; replace HB := Aside0.mk (below_step oB hb)))
           go_ret
           exact ⟨oE, oB⟩
          ·have H' := Aside0.mk H
           clear H
           have p143 : (0 ≤ (x5_1 : Int)) = True := oT
           have q143 : (x5_1 < (l0.length : Int)) = True := oT
           obtain ⟨ad143, A143_3, c143_3, A143_4, c143_4, A143_5, c143_5, e143, hx143_0, hx143_1, hx143_2, hx143_3, hx143_4, hx143_5, hl143_3, hi143_3, hl143_4, hi143_4, hl143_5, hi143_5⟩ := at_T45 HR0.out x5_1 oa oa
           cases e143
           replace hx143_0 := cB HB hx143_0
           replace hx143_1 := cB HB hx143_1
           replace hx143_2 := cB HB hx143_2
           replace hx143_3 := cB HB hx143_3
           replace hx143_4 := cB HB hx143_4
           replace hx143_5 := cB HB hx143_5
           have HR143_3 := Aside0.mk hi143_3
           have HC143_3 := Aside0.mk hl143_3
           clear hi143_3 hl143_3
           have HR143_4 := Aside0.mk hi143_4
           have HC143_4 := Aside0.mk hl143_4
           clear hi143_4 hl143_4
           have HR143_5 := Aside0.mk hi143_5
           have HC143_5 := Aside0.mk hl143_5
           clear hi143_5 hl143_5
           have p144 : (0 ≤ (x5_1 : Int)) = True := oT
           have q144 : (x5_1 < (l0.length : Int)) = True := oT
           obtain ⟨ad144, A144_3, c144_3, A144_4, c144_4, A144_5, c144_5, e144, hx144_0, hx144_1, hx144_2, hx144_3, hx144_4, hx144_5, hl144_3, hi144_3, hl144_4, hi144_4, hl144_5, hi144_5⟩ := at_T45 HR0.out x5_1 oa oa
           obtain rfl : ad143 = ad144 := (by injection e144)
           replace hx144_0 := cB HB hx144_0
           replace hx144_1 := cB HB hx144_1
           replace hx144_2 := cB HB hx144_2
           replace hx144_3 := cB HB hx144_3
           replace hx144_4 := cB HB hx144_4
           replace hx144_5 := cB HB hx144_5
           have HR144_3 := Aside0.mk hi144_3
           have HC144_3 := Aside0.mk hl144_3
           clear hi144_3 hl144_3
           have HR144_4 := Aside0.mk hi144_4
           have HC144_4 := Aside0.mk hl144_4
           clear hi144_4 hl144_4
           have HR144_5 := Aside0.mk hi144_5
           have HC144_5 := Aside0.mk hl144_5
           clear hi144_5 hl144_5
           have ea_ := Option.some.inj (hx143_3.symm.trans hx144_3)
           injection ea_ with ea_ en_ ec_
           subst ea_
           subst ec_
           clear en_
           have ea_ := Option.some.inj (hx143_4.symm.trans hx144_4)
           injection ea_ with ea_ en_ ec_
           subst ea_
           subst ec_
           clear en_
           have ea_ := Option.some.inj (hx143_5.symm.trans hx144_5)
           injection ea_ with ea_ en_ ec_
           subst ea_
           subst ec_
           clear en_
           have p145 : (0 ≤ (x5_1 : Int)) = True := oT
           have q145 : (x5_1 < (l0.length : Int)) = True := oT
           obtain ⟨ad145, A145_3, c145_3, A145_4, c145_4, A145_5, c145_5, e145, hx145_0, hx145_1, hx145_2, hx145_3, hx145_4, hx145_5, hl145_3, hi145_3, hl145_4, hi145_4, hl145_5, hi145_5⟩ := at_T45 HR0.out x5_1 oa oa
           obtain rfl : ad143 = ad145 := (by injection e145)
           replace hx145_0 := cB HB hx145_0
           replace hx145_1 := cB HB hx145_1
           replace hx145_2 := cB HB hx145_2
           replace hx145_3 := cB HB hx145_3
           replace hx145_4 := cB HB hx145_4
           replace hx145_5 := cB HB hx145_5
           have HR145_3 := Aside0.mk hi145_3
           have HC145_3 := Aside0.mk hl145_3
           clear hi145_3 hl145_3
           have HR145_4 := Aside0.mk hi145_4
           have HC145_4 := Aside0.mk hl145_4
           clear hi145_4 hl145_4
           have HR145_5 := Aside0.mk hi145_5
           have HC145_5 := Aside0.mk hl145_5
           clear hi145_5 hl145_5
           have ea_ := Option.some.inj (hx143_3.symm.trans hx145_3)
           injection ea_ with ea_ en_ ec_
           subst ea_
           subst ec_
           clear en_
           have ea_ := Option.some.inj (hx143_4.symm.trans hx145_4)
           injection ea_ with ea_ en_ ec_
           subst ea_
           subst ec_
           clear en_
           have ea_ := Option.some.inj (hx143_5.symm.trans hx145_5)
           injection ea_ with ea_ en_ ec_
           subst ea_
           subst ec_
           clear en_
           have p146 : (0 ≤ (x5_1 : Int)) = True := oT
           have q146 : (x5_1 < (l0.length : Int)) = True := oT
           obtain ⟨ad146, A146_3, c146_3, A146_4, c146_4, A146_5, c146_5, e146, hx146_0, hx146_1, hx146_2, hx146_3, hx146_4, hx146_5, hl146_3, hi146_3, hl146_4, hi146_4, hl146_5, hi146_5⟩ := at_T45 HR0.out x5_1 oa oa
           obtain rfl : ad143 = ad146 := (by injection e146)
           replace hx146_0 := cB HB hx146_0
           replace hx146_1 := cB HB hx146_1
           replace hx146_2 := cB HB hx146_2
           replace hx146_3 := cB HB hx146_3
           replace hx146_4 := cB HB hx146_4
           replace hx146_5 := cB HB hx146_5
           have HR146_3 := Aside0.mk hi146_3
           have HC146_3 := Aside0.mk hl146_3
           clear hi146_3 hl146_3
           have HR146_4 := Aside0.mk hi146_4
           have HC146_4 := Aside0.mk hl146_4
           clear hi146_4 hl146_4
           have HR146_5 := Aside0.mk hi146_5
           have HC146_5 := Aside0.mk hl146_5
           clear hi146_5 hl146_5
           have ea_ := Option.some.inj (hx143_3.symm.trans hx146_3)
           injection ea_ with ea_ en_ ec_
           subst ea_
           subst ec_
           clear en_
           have ea_ := Option.some.inj (hx143_4.symm.trans hx146_4)
           injection ea_ with ea_ en_ ec_
           subst ea_
           subst ec_
           clear en_
           have ea_ := Option.some.inj (hx143_5.symm.trans hx146_5)
           injection ea_ with ea_ en_ ec_
           subst ea_
           subst ec_
           clear en_
           go_wp2_with (first | ((with_reducible refine gate_callee (f := 50) rfl ?_); refine gl_ 45 Try.func50 (laws_heldByteS.calls k1 _ _ ((rd_T45 l0 x5_1).f3) (wrap64 ((wrap64 ((wrap64 (x1_1 + 1)) + 1)) + 1)) t147 _ (kC HR146_3) HC146_3.out A8.out) ?_; rintro e w' ⟨rfl, ⟨nd, rfl⟩⟩; refine ⟨_, rfl, ?_⟩; have p148 : (0 ≤ (x5_1 : Int)) = True := oT; have q148 : (x5_1 < (l0.length : Int)) = True := oT; obtain ⟨ad148, A148_3, c148_3, A148_4, c148_4, A148_5, c148_5, e148, hx148_0, hx148_1, hx148_2, hx148_3, hx148_4, hx148_5, hl148_3, hi148_3, hl148_4, hi148_4, hl148_5, hi148_5⟩ := at_T45 HR0.out x5_1 oa oa; obtain rfl : ad143 = ad148 := (by injection e148); replace hx148_0 := cB HB hx148_0; replace hx148_1 := cB HB hx148_1; replace hx148_2 := cB HB hx148_2; replace hx148_3 := cB HB hx148_3; replace hx148_4 := cB HB hx148_4; replace hx148_5 := cB HB hx148_5; have HR148_3 := Aside0.mk hi148_3; have HC148_3 := Aside0.mk hl148_3; clear hi148_3 hl148_3; have HR148_4 := Aside0.mk hi148_4; have HC148_4 := Aside0.mk hl148_4; clear hi148_4 hl148_4; have HR148_5 := Aside0.mk hi148_5; have HC148_5 := Aside0.mk hl148_5; clear hi148_5 hl148_5; have ea_ := Option.some.inj (hx143_3.symm.trans hx148_3); injection ea_ with ea_ en_ ec_; subst ea_; subst ec_; clear en_; have ea_ := Option.some.inj (hx143_4.symm.trans hx148_4); injection ea_ with ea_ en_ ec_; subst ea_; subst ec_; clear en_; have ea_ := Option.some.inj (hx143_5.symm.trans hx148_5); injection ea_ with ea_ en_ ec_; subst ea_; subst ec_; clear en_) | ((with_reducible refine gate_callee (f := 105) rfl ?_); refine gl_ 54 Try.func105 (laws_heldEntS.calls k1 _ _ ((rd_T45 l0 x5_1).f4) t147 t149 _ (kC HR148_4) HC148_4.out A10.out) ?_; rintro e w17 ⟨rfl, hb⟩; refine ⟨_, rfl, ?_⟩; replace HB := Aside0.mk (below_step oB hb); have p150 : (0 ≤ (x5_1 : Int)) = True := oT; have q150 : (x5_1 < (l0.length : Int)) = True := oT; obtain ⟨ad150, A150_3, c150_3, A150_4, c150_4, A150_5, c150_5, e150, hx150_0, hx150_1, hx150_2, hx150_3, hx150_4, hx150_5, hl150_3, hi150_3, hl150_4, hi150_4, hl150_5, hi150_5⟩ := at_T45 HR0.out x5_1 oa oa; obtain rfl : ad143 = ad150 := (by injection e150); replace hx150_0 := cB HB hx150_0; replace hx150_1 := cB HB hx150_1; replace hx150_2 := cB HB hx150_2; replace hx150_3 := cB HB hx150_3; replace hx150_4 := cB HB hx150_4; replace hx150_5 := cB HB hx150_5; have HR150_3 := Aside0.mk hi150_3; have HC150_3 := Aside0.mk hl150_3; clear hi150_3 hl150_3; have HR150_4 := Aside0.mk hi150_4; have HC150_4 := Aside0.mk hl150_4; clear hi150_4 hl150_4; have HR150_5 := Aside0.mk hi150_5; have HC150_5 := Aside0.mk hl150_5; clear hi150_5 hl150_5) | ((with_reducible refine gate_callee (f := 106) rfl ?_); refine gl_ 63 Try.func106 (laws_heldAttrS.calls k1 _ _ ((rd_T45 l0 x5_1).f5) t149 t151 _ (kC HR150_5) HC150_5.out A13.out) ?_; rintro e w18 ⟨rfl, hb⟩; refine ⟨_, rfl, ?_⟩; replace HB := Aside0.mk (below_step oB hb)))
           go_roundg k1
           case measure => have := HK1.out; omega
           case rel => exact ⟨(t151), (wrap64 (x5_1 + 1)), oS, oS, H', ⟨by have := HK1.out; omega⟩, ⟨oB⟩⟩
       ·rw [if_neg c7] at H
        have c7b0 : (((rd_T45 l0 x5_1).f2) == (wrap64 ((wrap64 (x1_1 + 1)) + 1))) = false := beq_eq_false_iff_ne.mpr c7
        have c7b1 : (((rd_T45 l0 x5_1).f2) != (wrap64 ((wrap64 (x1_1 + 1)) + 1))) = true := bne_iff_ne.mpr c7
        obtain rfl := Option.some.inj H
        have p143 : (0 ≤ (x5_1 : Int)) = True := oT
        have q143 : (x5_1 < (l0.length : Int)) = True := oT
        obtain ⟨ad143, A143_3, c143_3, A143_4, c143_4, A143_5, c143_5, e143, hx143_0, hx143_1, hx143_2, hx143_3, hx143_4, hx143_5, hl143_3, hi143_3, hl143_4, hi143_4, hl143_5, hi143_5⟩ := at_T45 HR0.out x5_1 oa oa
        cases e143
        replace hx143_0 := cB HB hx143_0
        replace hx143_1 := cB HB hx143_1
        replace hx143_2 := cB HB hx143_2
        replace hx143_3 := cB HB hx143_3
        replace hx143_4 := cB HB hx143_4
        replace hx143_5 := cB HB hx143_5
        have HR143_3 := Aside0.mk hi143_3
        have HC143_3 := Aside0.mk hl143_3
        clear hi143_3 hl143_3
        have HR143_4 := Aside0.mk hi143_4
        have HC143_4 := Aside0.mk hl143_4
        clear hi143_4 hl143_4
        have HR143_5 := Aside0.mk hi143_5
        have HC143_5 := Aside0.mk hl143_5
        clear hi143_5 hl143_5
        have p144 : (0 ≤ (x5_1 : Int)) = True := oT
        have q144 : (x5_1 < (l0.length : Int)) = True := oT
        obtain ⟨ad144, A144_3, c144_3, A144_4, c144_4, A144_5, c144_5, e144, hx144_0, hx144_1, hx144_2, hx144_3, hx144_4, hx144_5, hl144_3, hi144_3, hl144_4, hi144_4, hl144_5, hi144_5⟩ := at_T45 HR0.out x5_1 oa oa
        obtain rfl : ad143 = ad144 := (by injection e144)
        replace hx144_0 := cB HB hx144_0
        replace hx144_1 := cB HB hx144_1
        replace hx144_2 := cB HB hx144_2
        replace hx144_3 := cB HB hx144_3
        replace hx144_4 := cB HB hx144_4
        replace hx144_5 := cB HB hx144_5
        have HR144_3 := Aside0.mk hi144_3
        have HC144_3 := Aside0.mk hl144_3
        clear hi144_3 hl144_3
        have HR144_4 := Aside0.mk hi144_4
        have HC144_4 := Aside0.mk hl144_4
        clear hi144_4 hl144_4
        have HR144_5 := Aside0.mk hi144_5
        have HC144_5 := Aside0.mk hl144_5
        clear hi144_5 hl144_5
        have ea_ := Option.some.inj (hx143_3.symm.trans hx144_3)
        injection ea_ with ea_ en_ ec_
        subst ea_
        subst ec_
        clear en_
        have ea_ := Option.some.inj (hx143_4.symm.trans hx144_4)
        injection ea_ with ea_ en_ ec_
        subst ea_
        subst ec_
        clear en_
        have ea_ := Option.some.inj (hx143_5.symm.trans hx144_5)
        injection ea_ with ea_ en_ ec_
        subst ea_
        subst ec_
        clear en_
        have p145 : (0 ≤ (x5_1 : Int)) = True := oT
        have q145 : (x5_1 < (l0.length : Int)) = True := oT
        obtain ⟨ad145, A145_3, c145_3, A145_4, c145_4, A145_5, c145_5, e145, hx145_0, hx145_1, hx145_2, hx145_3, hx145_4, hx145_5, hl145_3, hi145_3, hl145_4, hi145_4, hl145_5, hi145_5⟩ := at_T45 HR0.out x5_1 oa oa
        obtain rfl : ad143 = ad145 := (by injection e145)
        replace hx145_0 := cB HB hx145_0
        replace hx145_1 := cB HB hx145_1
        replace hx145_2 := cB HB hx145_2
        replace hx145_3 := cB HB hx145_3
        replace hx145_4 := cB HB hx145_4
        replace hx145_5 := cB HB hx145_5
        have HR145_3 := Aside0.mk hi145_3
        have HC145_3 := Aside0.mk hl145_3
        clear hi145_3 hl145_3
        have HR145_4 := Aside0.mk hi145_4
        have HC145_4 := Aside0.mk hl145_4
        clear hi145_4 hl145_4
        have HR145_5 := Aside0.mk hi145_5
        have HC145_5 := Aside0.mk hl145_5
        clear hi145_5 hl145_5
        have ea_ := Option.some.inj (hx143_3.symm.trans hx145_3)
        injection ea_ with ea_ en_ ec_
        subst ea_
        subst ec_
        clear en_
        have ea_ := Option.some.inj (hx143_4.symm.trans hx145_4)
        injection ea_ with ea_ en_ ec_
        subst ea_
        subst ec_
        clear en_
        have ea_ := Option.some.inj (hx143_5.symm.trans hx145_5)
        injection ea_ with ea_ en_ ec_
        subst ea_
        subst ec_
        clear en_
        go_wp2
        go_ret
        exact ⟨oE, oB⟩
      ·rw [if_neg c6] at H
       have c6b0 : (((rd_T45 l0 x5_1).f1) == (wrap64 (x1_1 + 1))) = false := beq_eq_false_iff_ne.mpr c6
       have c6b1 : (((rd_T45 l0 x5_1).f1) != (wrap64 (x1_1 + 1))) = true := bne_iff_ne.mpr c6
       obtain rfl := Option.some.inj H
       have p143 : (0 ≤ (x5_1 : Int)) = True := oT
       have q143 : (x5_1 < (l0.length : Int)) = True := oT
       obtain ⟨ad143, A143_3, c143_3, A143_4, c143_4, A143_5, c143_5, e143, hx143_0, hx143_1, hx143_2, hx143_3, hx143_4, hx143_5, hl143_3, hi143_3, hl143_4, hi143_4, hl143_5, hi143_5⟩ := at_T45 HR0.out x5_1 oa oa
       cases e143
       replace hx143_0 := cB HB hx143_0
       replace hx143_1 := cB HB hx143_1
       replace hx143_2 := cB HB hx143_2
       replace hx143_3 := cB HB hx143_3
       replace hx143_4 := cB HB hx143_4
       replace hx143_5 := cB HB hx143_5
       have HR143_3 := Aside0.mk hi143_3
       have HC143_3 := Aside0.mk hl143_3
       clear hi143_3 hl143_3
       have HR143_4 := Aside0.mk hi143_4
       have HC143_4 := Aside0.mk hl143_4
       clear hi143_4 hl143_4
       have HR143_5 := Aside0.mk hi143_5
       have HC143_5 := Aside0.mk hl143_5
       clear hi143_5 hl143_5
       have p144 : (0 ≤ (x5_1 : Int)) = True := oT
       have q144 : (x5_1 < (l0.length : Int)) = True := oT
       obtain ⟨ad144, A144_3, c144_3, A144_4, c144_4, A144_5, c144_5, e144, hx144_0, hx144_1, hx144_2, hx144_3, hx144_4, hx144_5, hl144_3, hi144_3, hl144_4, hi144_4, hl144_5, hi144_5⟩ := at_T45 HR0.out x5_1 oa oa
       obtain rfl : ad143 = ad144 := (by injection e144)
       replace hx144_0 := cB HB hx144_0
       replace hx144_1 := cB HB hx144_1
       replace hx144_2 := cB HB hx144_2
       replace hx144_3 := cB HB hx144_3
       replace hx144_4 := cB HB hx144_4
       replace hx144_5 := cB HB hx144_5
       have HR144_3 := Aside0.mk hi144_3
       have HC144_3 := Aside0.mk hl144_3
       clear hi144_3 hl144_3
       have HR144_4 := Aside0.mk hi144_4
       have HC144_4 := Aside0.mk hl144_4
       clear hi144_4 hl144_4
       have HR144_5 := Aside0.mk hi144_5
       have HC144_5 := Aside0.mk hl144_5
       clear hi144_5 hl144_5
       have ea_ := Option.some.inj (hx143_3.symm.trans hx144_3)
       injection ea_ with ea_ en_ ec_
       subst ea_
       subst ec_
       clear en_
       have ea_ := Option.some.inj (hx143_4.symm.trans hx144_4)
       injection ea_ with ea_ en_ ec_
       subst ea_
       subst ec_
       clear en_
       have ea_ := Option.some.inj (hx143_5.symm.trans hx144_5)
       injection ea_ with ea_ en_ ec_
       subst ea_
       subst ec_
       clear en_
       go_wp2
       go_ret
       exact ⟨oE, oB⟩
     ·rw [if_neg c5] at H
      have c5b0 : (((rd_T45 l0 x5_1).f0) == x1_1) = false := beq_eq_false_iff_ne.mpr c5
      have c5b1 : (((rd_T45 l0 x5_1).f0) != x1_1) = true := bne_iff_ne.mpr c5
      obtain rfl := Option.some.inj H
      have p143 : (0 ≤ (x5_1 : Int)) = True := oT
      have q143 : (x5_1 < (l0.length : Int)) = True := oT
      obtain ⟨ad143, A143_3, c143_3, A143_4, c143_4, A143_5, c143_5, e143, hx143_0, hx143_1, hx143_2, hx143_3, hx143_4, hx143_5, hl143_3, hi143_3, hl143_4, hi143_4, hl143_5, hi143_5⟩ := at_T45 HR0.out x5_1 oa oa
      cases e143
      replace hx143_0 := cB HB hx143_0
      replace hx143_1 := cB HB hx143_1
      replace hx143_2 := cB HB hx143_2
      replace hx143_3 := cB HB hx143_3
      replace hx143_4 := cB HB hx143_4
      replace hx143_5 := cB HB hx143_5
      have HR143_3 := Aside0.mk hi143_3
      have HC143_3 := Aside0.mk hl143_3
      clear hi143_3 hl143_3
      have HR143_4 := Aside0.mk hi143_4
      have HC143_4 := Aside0.mk hl143_4
      clear hi143_4 hl143_4
      have HR143_5 := Aside0.mk hi143_5
      have HC143_5 := Aside0.mk hl143_5
      clear hi143_5 hl143_5
      go_wp2
      go_ret
      exact ⟨oE, oB⟩
    ·cases H
   ·obtain rfl := Option.some.inj H
    go_wp2
    go_ret
    exact ⟨oE, oB⟩

/-! ### laws_heldTab: function 27 -/
def laws_heldTab.f (k : Nat) (l0_0 : List (S45)) (a0_1 : Int) (a1 : Int) : Option (Int) := (laws_heldInodeS.f k l0_0 a1).bind fun t153 => (if t153 < 0 then (some (-1)) else (some t153))
set_option maxHeartbeats 8000000 in
set_option maxRecDepth 100000 in
theorem laws_heldTab.calls (k : Nat) (A0_0 : Option Addr) (c0_0 : Nat) (l0_0 : List (S45)) (a0_1 : Int) (a1 : Int) (r : Int) (w : World) (hr0_0 : Kd.C k45 w A0_0 l0_0.length l0_0) (hc0_0 : l0_0.length ≤ c0_0) (h : laws_heldTab.f k l0_0 a0_1 a1 = some r) :
  Calls Try.prog 27 #[.agg #[.slice A0_0 l0_0.length c0_0, .int .i64 a0_1], .int .i64 a1] w fun e w' => e = .returned (.int .i64 r) ∧ Below w.heap.size w w' := by
 have hu30 := Try.underlying30
 have HR0_0 := Aside0.mk hr0_0
 have HC0_0 := Aside0.mk hc0_0
 clear hr0_0 hc0_0
 have HB := Aside0.mk (Below.refl w.heap.size w)
 unfold laws_heldTab.f at h
 have H := h
 clear h
 replace H := bA H
 obtain ⟨t153, A3, H⟩ := H
 try dsimp only at H
 replace H := itD H
 rcases H with ⟨c4b0, H⟩ | ⟨c4b0, H⟩
 ·obtain rfl := Option.some.inj H
  go_enter Try.func27, Try.ntmps27
  go_wp2_with (first | ((with_reducible refine gate_dst (N := 2) rfl ?_); refine bx_ 2 #[.slice A0_0 l0_0.length c0_0, .int .i64 a0_1] 30 ?_; intro gb152 hg w5 hbox hb; have BK152 := Aside0.mk (hbox); have GW152 := gs_ hg; have GE152 := gs_ hg; replace HB := Aside0.mk (below_step oB hb); clear hb hbox hg; obtain ⟨⟨_, _⟩, _, _⟩ := z2 BK152) | ((with_reducible refine gate_callee (f := 72) rfl ?_); refine gl_ 8 Try.func72 (laws_heldInodeS.calls k _ _ l0_0 a1 t153 _ (kC HR0_0) HC0_0.out A3.out) ?_; rintro e w7 ⟨rfl, hb⟩; refine ⟨_, rfl, ?_⟩; replace BK152 := kb_ BK152 hb; replace HB := Aside0.mk (below_step oB hb)))
  go_ret
  exact ⟨oE, oB⟩
 ·obtain rfl := Option.some.inj H
  go_enter Try.func27, Try.ntmps27
  go_wp2_with (first | ((with_reducible refine gate_dst (N := 2) rfl ?_); refine bx_ 2 #[.slice A0_0 l0_0.length c0_0, .int .i64 a0_1] 30 ?_; intro gb152 hg w8 hbox hb; have BK152 := Aside0.mk (hbox); have GW152 := gs_ hg; have GE152 := gs_ hg; replace HB := Aside0.mk (below_step oB hb); clear hb hbox hg; obtain ⟨⟨_, _⟩, _, _⟩ := z2 BK152) | ((with_reducible refine gate_callee (f := 72) rfl ?_); refine gl_ 8 Try.func72 (laws_heldInodeS.calls k _ _ l0_0 a1 t153 _ (kC HR0_0) HC0_0.out A3.out) ?_; rintro e w10 ⟨rfl, hb⟩; refine ⟨_, rfl, ?_⟩; replace BK152 := kb_ BK152 hb; replace HB := Aside0.mk (below_step oB hb)))
  go_ret
  exact ⟨oE, oB⟩

theorem laws_heldTab.calls' (k : Nat) (A0_0 : Option Addr) (c0_0 n : Nat) (l0_0 : List S45) (a0_1 a1 r : Int) (w : World) (hn : l0_0.length = n) (hr0_0 : Kd.C k45 w A0_0 l0_0.length l0_0) (hc0_0 : l0_0.length ≤ c0_0) (h : laws_heldTab.f k l0_0 a0_1 a1 = some r) :
  Calls Try.prog 27 #[.agg #[.slice A0_0 n c0_0, .int .i64 a0_1], .int .i64 a1] w fun e w' => e = .returned (.int .i64 r) ∧ Below w.heap.size w w' := by
 subst hn
 exact laws_heldTab.calls k A0_0 c0_0 l0_0 a0_1 a1 r w hr0_0 hc0_0 h
/-! ### laws_szByteS: function 73 -/
def laws_szByteS.f (l0 : List Int) (a1 : Int) : Option (Int) := if (wrap64 (a1 - (l0.length : Int))) < 0 then (some (-1)) else (some (wrap64 (a1 - (l0.length : Int))))
set_option maxHeartbeats 8000000 in
set_option maxRecDepth 100000 in
theorem laws_szByteS.calls (A0 : Option Addr) (c0 : Nat) (l0 : List Int) (a1 : Int) (r : Int) (w : World) (hr0 : Kd.C (Kd.int .u8) w A0 l0.length l0) (hc0 : l0.length ≤ c0) (h : laws_szByteS.f l0 a1 = some r) :
  Calls Try.prog 73 #[.slice A0 l0.length c0, .int .i64 a1] w fun e w' => e = .returned (.int .i64 r) ∧ Drawn0 w w' := by
 have HR0 := Aside0.mk hr0
 have HC0 := Aside0.mk hc0
 clear hr0 hc0
 unfold laws_szByteS.f at h
 have H := h
 clear h
 replace H := itD H
 rcases H with ⟨c3b0, H⟩ | ⟨c3b0, H⟩
 ·obtain rfl := Option.some.inj H
  go_enter Try.func73, Try.ntmps73
  go_wp2
  go_ret
  exact ⟨oS, oD⟩
 ·obtain rfl := Option.some.inj H
  go_enter Try.func73, Try.ntmps73
  go_wp2
  go_ret
  exact ⟨oS, oD⟩

/-! ### laws_szEnt: function 125 -/
def laws_szEnt.f (a0_0 : ByteArray) (a0_1 : Int) (a1 : Int) : Option (Int) := if (wrap64 (a1 - (a0_0.size : Int))) < 0 then (some (-1)) else (some (wrap64 (a1 - (a0_0.size : Int))))
set_option maxHeartbeats 8000000 in
set_option maxRecDepth 100000 in
theorem laws_szEnt.calls (a0_0 : ByteArray) (a0_1 : Int) (a1 : Int) (r : Int) (w : World) (h : laws_szEnt.f a0_0 a0_1 a1 = some r) :
  Calls Try.prog 125 #[.agg #[.string a0_0, .int .i64 a0_1], .int .i64 a1] w fun e w' => e = .returned (.int .i64 r) ∧ Below w.heap.size w w' := by
 have hu125 := Try.underlying125
 have HB := Aside0.mk (Below.refl w.heap.size w)
 unfold laws_szEnt.f at h
 have H := h
 clear h
 replace H := itD H
 rcases H with ⟨c3b0, H⟩ | ⟨c3b0, H⟩
 ·obtain rfl := Option.some.inj H
  go_enter Try.func125, Try.ntmps125
  go_wp2_with (first | ((with_reducible refine gate_dst (N := 2) rfl ?_); refine bx_ 2 #[.string a0_0, .int .i64 a0_1] 125 ?_; intro gb154 hg w4 hbox hb; have BK154 := Aside0.mk (hbox); have GW154 := gs_ hg; have GE154 := gs_ hg; replace HB := Aside0.mk (below_step oB hb); clear hb hbox hg; obtain ⟨⟨_, _⟩, _, _⟩ := z2 BK154))
  go_ret
  exact ⟨oE, oB⟩
 ·obtain rfl := Option.some.inj H
  go_enter Try.func125, Try.ntmps125
  go_wp2_with (first | ((with_reducible refine gate_dst (N := 2) rfl ?_); refine bx_ 2 #[.string a0_0, .int .i64 a0_1] 125 ?_; intro gb154 hg w6 hbox hb; have BK154 := Aside0.mk (hbox); have GW154 := gs_ hg; have GE154 := gs_ hg; replace HB := Aside0.mk (below_step oB hb); clear hb hbox hg; obtain ⟨⟨_, _⟩, _, _⟩ := z2 BK154))
  go_ret
  exact ⟨oE, oB⟩

/-! ### laws_szEntS: function 74 -/
def laws_szEntS.l0 : Nat → List (S125) → Int → Int → Option (Int)
 | 0, _, _, _ => none
 | k + 1, x0, x1, x5 => if x5 < (x0.length : Int) then (if 0 ≤ x5 then ((laws_szEnt.f ((rd_T125 x0 x5).f0) ((rd_T125 x0 x5).f1) x1).bind fun t156 => (if t156 < 0 then (some (-1)) else (laws_szEntS.l0 k x0 t156 (wrap64 (x5 + 1))))) else (none)) else (some x1)
def laws_szEntS.f (k : Nat) (l0 : List (S125)) (a1 : Int) : Option (Int) := if (wrap64 (a1 - (l0.length : Int))) < 0 then (some (-1)) else (laws_szEntS.l0 k l0 (wrap64 (a1 - (l0.length : Int))) 0)
set_option maxHeartbeats 8000000 in
set_option maxRecDepth 100000 in
theorem laws_szEntS.calls (k : Nat) (A0 : Option Addr) (c0 : Nat) (l0 : List (S125)) (a1 : Int) (r : Int) (w : World) (hr0 : Kd.C k125 w A0 l0.length l0) (hc0 : l0.length ≤ c0) (h : laws_szEntS.f k l0 a1 = some r) :
  Calls Try.prog 74 #[.slice A0 l0.length c0, .int .i64 a1] w fun e w' => e = .returned (.int .i64 r) ∧ Below w.heap.size w w' := by
 have hu125 := Try.underlying125
 have HR0 := Aside0.mk hr0
 have HC0 := Aside0.mk hc0
 clear hr0 hc0
 have HB := Aside0.mk (Below.refl w.heap.size w)
 unfold laws_szEntS.f at h
 have H := h
 clear h
 replace H := itD H
 rcases H with ⟨c3b0, H⟩ | ⟨c3b0, H⟩
 ·obtain rfl := Option.some.inj H
  go_enter Try.func74, Try.ntmps74
  go_wp2
  go_ret
  exact ⟨oE, oB⟩
 ·have H' := Aside0.mk H
  clear H
  go_enter Try.func74, Try.ntmps74
  go_wp2
  go_loopg [1, 5] k (fun kq v1 v5 w' => ∃ (x1_1 : Int) (x5_1 : Int), v1 = .int .i64 x1_1 ∧ v5 = .int .i64 x5_1 ∧ Aside0 (laws_szEntS.l0 kq l0 x1_1 x5_1 = some r) ∧ Aside0 (kq ≤ k) ∧ Aside0 (Below w.heap.size w w'))
  case atStart => exact ⟨(wrap64 (a1 - (l0.length : Int))), (0), oS, oS, H', ⟨Nat.le_refl _⟩, ⟨oB⟩⟩
  case round =>
   clear H'
   try clear c3b0
   obtain ⟨x1_1, x5_1, rfl, rfl, HA, HK1, HB⟩ := hrel
   cases gk with
   | zero => exact absurd HA.out (by simp [laws_szEntS.l0])
   | succ k1 =>
    have H := HA.out
    clear HA
    simp only [laws_szEntS.l0] at H
    replace H := itD H
    rcases H with ⟨c4b0, H⟩ | ⟨c4b0, H⟩
    ·replace H := itD H
     rcases H with ⟨c5b0, H⟩ | ⟨c5b0, H⟩
     ·replace H := bA H
      obtain ⟨t156, A6, H⟩ := H
      try dsimp only at H
      replace H := itD H
      rcases H with ⟨c7b0, H⟩ | ⟨c7b0, H⟩
      ·obtain rfl := Option.some.inj H
       have p155 : (0 ≤ (x5_1 : Int)) = True := oT
       have q155 : (x5_1 < (l0.length : Int)) = True := oT
       obtain ⟨ad155, e155, hx155_0, hx155_1⟩ := at_T125 HR0.out x5_1 oa oa
       cases e155
       replace hx155_0 := cB HB hx155_0
       replace hx155_1 := cB HB hx155_1
       go_wp2_with (first | ((with_reducible refine gate_callee (f := 125) rfl ?_); refine gl_ 23 Try.func125 (laws_szEnt.calls ((rd_T125 l0 x5_1).f0) ((rd_T125 l0 x5_1).f1) x1_1 t156 _ A6.out) ?_; rintro e w8 ⟨rfl, hb⟩; refine ⟨_, rfl, ?_⟩; replace HB := Aside0.mk (below_step oB hb)))
       go_ret
       exact ⟨oE, oB⟩
      ·have H' := Aside0.mk H
       clear H
       have p155 : (0 ≤ (x5_1 : Int)) = True := oT
       have q155 : (x5_1 < (l0.length : Int)) = True := oT
       obtain ⟨ad155, e155, hx155_0, hx155_1⟩ := at_T125 HR0.out x5_1 oa oa
       cases e155
       replace hx155_0 := cB HB hx155_0
       replace hx155_1 := cB HB hx155_1
       go_wp2_with (first | ((with_reducible refine gate_callee (f := 125) rfl ?_); refine gl_ 23 Try.func125 (laws_szEnt.calls ((rd_T125 l0 x5_1).f0) ((rd_T125 l0 x5_1).f1) x1_1 t156 _ A6.out) ?_; rintro e w9 ⟨rfl, hb⟩; refine ⟨_, rfl, ?_⟩; replace HB := Aside0.mk (below_step oB hb)))
       go_roundg k1
       case measure => have := HK1.out; omega
       case rel => exact ⟨(t156), (wrap64 (x5_1 + 1)), oS, oS, H', ⟨by have := HK1.out; omega⟩, ⟨oB⟩⟩
     ·cases H
    ·obtain rfl := Option.some.inj H
     go_wp2
     go_ret
     exact ⟨oE, oB⟩

/-! ### laws_szAttr: function 126 -/
def laws_szAttr.f (a0_0 : ByteArray) (a0_1 : ByteArray) (a1 : Int) : Option (Int) := if (wrap64 (a1 - (a0_0.size : Int))) < 0 then (some (-1)) else (if (wrap64 ((wrap64 (a1 - (a0_0.size : Int))) - (a0_1.size : Int))) < 0 then (some (-1)) else (some (wrap64 ((wrap64 (a1 - (a0_0.size : Int))) - (a0_1.size : Int)))))
set_option maxHeartbeats 8000000 in
set_option maxRecDepth 100000 in
theorem laws_szAttr.calls (a0_0 : ByteArray) (a0_1 : ByteArray) (a1 : Int) (r : Int) (w : World) (h : laws_szAttr.f a0_0 a0_1 a1 = some r) :
  Calls Try.prog 126 #[.agg #[.string a0_0, .string a0_1], .int .i64 a1] w fun e w' => e = .returned (.int .i64 r) ∧ Below w.heap.size w w' := by
 have hu127 := Try.underlying127
 have HB := Aside0.mk (Below.refl w.heap.size w)
 unfold laws_szAttr.f at h
 have H := h
 clear h
 replace H := itD H
 rcases H with ⟨c3b0, H⟩ | ⟨c3b0, H⟩
 ·obtain rfl := Option.some.inj H
  go_enter Try.func126, Try.ntmps126
  go_wp2_with (first | ((with_reducible refine gate_dst (N := 2) rfl ?_); refine bx_ 2 #[.string a0_0, .string a0_1] 127 ?_; intro gb157 hg w4 hbox hb; have BK157 := Aside0.mk (hbox); have GW157 := gs_ hg; have GE157 := gs_ hg; replace HB := Aside0.mk (below_step oB hb); clear hb hbox hg; obtain ⟨⟨_, _⟩, _, _⟩ := z2 BK157))
  go_ret
  exact ⟨oE, oB⟩
 ·replace H := itD H
  rcases H with ⟨c6b0, H⟩ | ⟨c6b0, H⟩
  ·obtain rfl := Option.some.inj H
   go_enter Try.func126, Try.ntmps126
   go_wp2_with (first | ((with_reducible refine gate_dst (N := 2) rfl ?_); refine bx_ 2 #[.string a0_0, .string a0_1] 127 ?_; intro gb157 hg w7 hbox hb; have BK157 := Aside0.mk (hbox); have GW157 := gs_ hg; have GE157 := gs_ hg; replace HB := Aside0.mk (below_step oB hb); clear hb hbox hg; obtain ⟨⟨_, _⟩, _, _⟩ := z2 BK157))
   go_ret
   exact ⟨oE, oB⟩
  ·obtain rfl := Option.some.inj H
   go_enter Try.func126, Try.ntmps126
   go_wp2_with (first | ((with_reducible refine gate_dst (N := 2) rfl ?_); refine bx_ 2 #[.string a0_0, .string a0_1] 127 ?_; intro gb157 hg w9 hbox hb; have BK157 := Aside0.mk (hbox); have GW157 := gs_ hg; have GE157 := gs_ hg; replace HB := Aside0.mk (below_step oB hb); clear hb hbox hg; obtain ⟨⟨_, _⟩, _, _⟩ := z2 BK157))
   go_ret
   exact ⟨oE, oB⟩

/-! ### laws_szAttrS: function 75 -/
def laws_szAttrS.l0 : Nat → List (S127) → Int → Int → Option (Int)
 | 0, _, _, _ => none
 | k + 1, x0, x1, x5 => if x5 < (x0.length : Int) then (if 0 ≤ x5 then ((laws_szAttr.f ((rd_T127 x0 x5).f0) ((rd_T127 x0 x5).f1) x1).bind fun t159 => (if t159 < 0 then (some (-1)) else (laws_szAttrS.l0 k x0 t159 (wrap64 (x5 + 1))))) else (none)) else (some x1)
def laws_szAttrS.f (k : Nat) (l0 : List (S127)) (a1 : Int) : Option (Int) := if (wrap64 (a1 - (l0.length : Int))) < 0 then (some (-1)) else (laws_szAttrS.l0 k l0 (wrap64 (a1 - (l0.length : Int))) 0)
set_option maxHeartbeats 8000000 in
set_option maxRecDepth 100000 in
theorem laws_szAttrS.calls (k : Nat) (A0 : Option Addr) (c0 : Nat) (l0 : List (S127)) (a1 : Int) (r : Int) (w : World) (hr0 : Kd.C k127 w A0 l0.length l0) (hc0 : l0.length ≤ c0) (h : laws_szAttrS.f k l0 a1 = some r) :
  Calls Try.prog 75 #[.slice A0 l0.length c0, .int .i64 a1] w fun e w' => e = .returned (.int .i64 r) ∧ Below w.heap.size w w' := by
 have hu127 := Try.underlying127
 have HR0 := Aside0.mk hr0
 have HC0 := Aside0.mk hc0
 clear hr0 hc0
 have HB := Aside0.mk (Below.refl w.heap.size w)
 unfold laws_szAttrS.f at h
 have H := h
 clear h
 replace H := itD H
 rcases H with ⟨c3b0, H⟩ | ⟨c3b0, H⟩
 ·obtain rfl := Option.some.inj H
  go_enter Try.func75, Try.ntmps75
  go_wp2
  go_ret
  exact ⟨oE, oB⟩
 ·have H' := Aside0.mk H
  clear H
  go_enter Try.func75, Try.ntmps75
  go_wp2
  go_loopg [1, 5] k (fun kq v1 v5 w' => ∃ (x1_1 : Int) (x5_1 : Int), v1 = .int .i64 x1_1 ∧ v5 = .int .i64 x5_1 ∧ Aside0 (laws_szAttrS.l0 kq l0 x1_1 x5_1 = some r) ∧ Aside0 (kq ≤ k) ∧ Aside0 (Below w.heap.size w w'))
  case atStart => exact ⟨(wrap64 (a1 - (l0.length : Int))), (0), oS, oS, H', ⟨Nat.le_refl _⟩, ⟨oB⟩⟩
  case round =>
   clear H'
   try clear c3b0
   obtain ⟨x1_1, x5_1, rfl, rfl, HA, HK1, HB⟩ := hrel
   cases gk with
   | zero => exact absurd HA.out (by simp [laws_szAttrS.l0])
   | succ k1 =>
    have H := HA.out
    clear HA
    simp only [laws_szAttrS.l0] at H
    replace H := itD H
    rcases H with ⟨c4b0, H⟩ | ⟨c4b0, H⟩
    ·replace H := itD H
     rcases H with ⟨c5b0, H⟩ | ⟨c5b0, H⟩
     ·replace H := bA H
      obtain ⟨t159, A6, H⟩ := H
      try dsimp only at H
      replace H := itD H
      rcases H with ⟨c7b0, H⟩ | ⟨c7b0, H⟩
      ·obtain rfl := Option.some.inj H
       have p158 : (0 ≤ (x5_1 : Int)) = True := oT
       have q158 : (x5_1 < (l0.length : Int)) = True := oT
       obtain ⟨ad158, e158, hx158_0, hx158_1⟩ := at_T127 HR0.out x5_1 oa oa
       cases e158
       replace hx158_0 := cB HB hx158_0
       replace hx158_1 := cB HB hx158_1
       go_wp2_with (first | ((with_reducible refine gate_callee (f := 126) rfl ?_); refine gl_ 23 Try.func126 (laws_szAttr.calls ((rd_T127 l0 x5_1).f0) ((rd_T127 l0 x5_1).f1) x1_1 t159 _ A6.out) ?_; rintro e w8 ⟨rfl, hb⟩; refine ⟨_, rfl, ?_⟩; replace HB := Aside0.mk (below_step oB hb)))
       go_ret
       exact ⟨oE, oB⟩
      ·have H' := Aside0.mk H
       clear H
       have p158 : (0 ≤ (x5_1 : Int)) = True := oT
       have q158 : (x5_1 < (l0.length : Int)) = True := oT
       obtain ⟨ad158, e158, hx158_0, hx158_1⟩ := at_T127 HR0.out x5_1 oa oa
       cases e158
       replace hx158_0 := cB HB hx158_0
       replace hx158_1 := cB HB hx158_1
       go_wp2_with (first | ((with_reducible refine gate_callee (f := 126) rfl ?_); refine gl_ 23 Try.func126 (laws_szAttr.calls ((rd_T127 l0 x5_1).f0) ((rd_T127 l0 x5_1).f1) x1_1 t159 _ A6.out) ?_; rintro e w9 ⟨rfl, hb⟩; refine ⟨_, rfl, ?_⟩; replace HB := Aside0.mk (below_step oB hb)))
       go_roundg k1
       case measure => have := HK1.out; omega
       case rel => exact ⟨(t159), (wrap64 (x5_1 + 1)), oS, oS, H', ⟨by have := HK1.out; omega⟩, ⟨oB⟩⟩
     ·cases H
    ·obtain rfl := Option.some.inj H
     go_wp2
     go_ret
     exact ⟨oE, oB⟩

end Go.Proofs.Ytkknehgaebhbeaa.P
