-- By this session's own program (wip/myprint.py) out of the translation; Lean checks it.
import Derived.Test.YtkfcmpalbhmmaaaDoorPx0
import Derived.Test.YtkfcmpalbhmmaaaDoorPx1
namespace Go.Proofs.YtkfcmpalbhmmaaaDoor.P
open Go.RowKit Go.Proofs.YtkfcmpalbhmmaaaDoorW.PrintWords Go.Proofs.YtkfcmpalbhmmaaaDoorW.PrintLast Go.Proofs.YtkfcmpalbhmmaaaDoorW.PrintMore
attribute [local go_sem] max2_int min2_int max_two min_two max_three min_three max_four min_four   -- for this text's walks alone
set_option linter.unusedVariables false
set_option linter.unusedSimpArgs false

/-! ### laws_eqEntS: function 73 -/
def laws_eqEntS.l0 : Nat → List (S91) → List (S91) → Int → Option (Bool)
 | 0, _, _, _ => none
 | k + 1, x0, x1, x5 => if x5 < (x0.length : Int) then (if 0 ≤ x5 then (if x5 < (x1.length : Int) then ((laws_eqEnt.f ((rd_T91 x0 x5).f0) ((rd_T91 x0 x5).f1) ((rd_T91 x1 x5).f0) ((rd_T91 x1 x5).f1)).bind fun t181 => (if t181 = true then (laws_eqEntS.l0 k x0 x1 (wrap64 (x5 + 1))) else (some false))) else (none)) else (none)) else (some true)
def laws_eqEntS.f (k : Nat) (l0 : List (S91)) (l1 : List (S91)) : Option (Bool) := if (l0.length : Int) = (l1.length : Int) then (laws_eqEntS.l0 k l0 l1 0) else (some false)
def laws_eqEntS.T6 : Bool × List (List Nat × List Nat) := (true, [([], []), ([], []), ([0, 1], [0, 1]), ([2], [2]), ([], []), ([], []), ([4, 5], [4, 5]), ([6], [6]), ([3, 7], [3, 7]), ([8], [8])])
def laws_eqEntS.B6 : List Nat := [0, 0, 3, 7, 0, 0, 48, 112, 255, 511]
theorem laws_eqEntS.tab6 : rtab .any (opsOf Tryd.f73 6) = laws_eqEntS.T6 := by kernel_rfl
theorem laws_eqEntS.bits6 : waitsOk laws_eqEntS.T6.2 laws_eqEntS.B6 = true := by kernel_rfl
set_option maxHeartbeats 8000000 in
set_option maxRecDepth 100000 in
theorem laws_eqEntS.calls (k : Nat) (A0 : Option Addr) (c0 : Nat) (l0 : List (S91)) (A1 : Option Addr) (c1 : Nat) (l1 : List (S91)) (r : Bool) (w : World) (hr0 : Kd.C k91 w A0 l0.length l0) (hc0 : l0.length ≤ c0) (hr1 : Kd.C k91 w A1 l1.length l1) (hc1 : l1.length ≤ c1) (h : laws_eqEntS.f k l0 l1 = some r) :
  Calls Tryd.prog 73 #[.slice A0 l0.length c0, .slice A1 l1.length c1] w fun e w' => e = .returned (.bool r) ∧ Below w.heap.size w w' := by
 have hu91 := Tryd.underlying91
 have HR0 := Aside0.mk hr0
 have HC0 := Aside0.mk hc0
 clear hr0 hc0
 have HR1 := Aside0.mk hr1
 have HC1 := Aside0.mk hc1
 clear hr1 hc1
 have HB := Aside0.mk (Below.refl w.heap.size w)
 unfold laws_eqEntS.f at h
 have H := h
 clear h
 by_cases c3 : (l0.length : Int) = (l1.length : Int)
 ·rw [if_pos c3] at H
  have c3b0 : ((l0.length : Int) == (l1.length : Int)) = true := beq_iff_eq.mpr c3
  have c3b1 : ((l0.length : Int) != (l1.length : Int)) = false := bne_eq_false_iff_eq.mpr c3
  have c3b2 : (l0.length == l1.length) = true := by first | simpa using c3 | (simp at c3 ⊢; omega)
  clear c3
  have H' := Aside0.mk H
  clear H
  go_enter Tryd.func73, Tryd.ntmps73
  go_wp2
  go_loopg [5] k (fun kq v5 w' => ∃ (x5_1 : Int), v5 = .int .i64 x5_1 ∧ Aside0 (laws_eqEntS.l0 kq l0 l1 x5_1 = some r) ∧ Aside0 (kq ≤ k) ∧ Aside0 (Below w.heap.size w w'))
  case atStart => exact ⟨(0), oS, H', ⟨Nat.le_refl _⟩, ⟨oB⟩⟩
  case round =>
   clear H'
   try clear c1
   try clear c3
   obtain ⟨x5_1, rfl, HA, HK1, HB⟩ := hrel
   cases gk with
   | zero => exact absurd HA.out (by simp [laws_eqEntS.l0])
   | succ k1 =>
    have H := HA.out
    clear HA
    simp only [laws_eqEntS.l0] at H
    replace H := itD H
    rcases H with ⟨c4b0, H⟩ | ⟨c4b0, H⟩
    ·replace H := itD H
     rcases H with ⟨c5b0, H⟩ | ⟨c5b0, H⟩
     ·replace H := itD H
      rcases H with ⟨c6b0, H⟩ | ⟨c6b0, H⟩
      ·replace H := bA H
       obtain ⟨t181, A7, H⟩ := H
       try dsimp only at H
       replace H := itB H
       rcases H with ⟨rfl, H⟩ | ⟨rfl, H⟩
       ·have H' := Aside0.mk H
        clear H
        try go_wp2
        replace HB := Aside0.mk (below_drew1 HB.out)
        have p179 : (0 ≤ (x5_1 : Int)) = True := oT
        have q179 : (x5_1 < (l0.length : Int)) = True := oT
        obtain ⟨ad179, e179, hx179_0, hx179_1⟩ := at_T91 HR0.out x5_1 oa oa
        have hw179_1 := hx179_1
        have hw179_0 := hx179_0
        cases e179
        replace hx179_0 := cB HB hx179_0
        replace hx179_1 := cB HB hx179_1
        have p180 : (0 ≤ (x5_1 : Int)) = True := oT
        have q180 : (x5_1 < (l1.length : Int)) = True := oT
        obtain ⟨ad180, e180, hx180_0, hx180_1⟩ := at_T91 HR1.out x5_1 oa oa
        have hw180_1 := hx180_1
        have hw180_0 := hx180_0
        cases e180
        replace hx180_0 := cB HB hx180_0
        replace hx180_1 := cB HB hx180_1
        refine st_ 10 (fun w' => w'.cell? (ad179.add ((x5_1).toNat * 2)) = some (.string ((rd_T91 l0 x5_1).f0)) ∧ w'.cell? ⟨(ad179.add ((x5_1).toNat * 2)).block, (ad179.add ((x5_1).toNat * 2)).off + 1, none⟩ = some (.int .i64 ((rd_T91 l0 x5_1).f1)) ∧ w'.cell? (ad180.add ((x5_1).toNat * 2)) = some (.string ((rd_T91 l1 x5_1).f0)) ∧ w'.cell? ⟨(ad180.add ((x5_1).toNat * 2)).block, (ad180.add ((x5_1).toNat * 2)).off + 1, none⟩ = some (.int .i64 ((rd_T91 l1 x5_1).f1))) laws_eqEntS.tab6 laws_eqEntS.bits6 oH (fun hHeld HT_ HW_ => ?_)
        generalize wr.drew = w9 at HB hx179_0 hx179_1 hx180_0 hx180_1 hHeld ⊢
        refine pu_ 0 17 HT_ ?_
        refine pu_ 1 18 HT_ ?_
        refine pu_ 2 19 HT_ ?_
        refine pu_ 4 21 HT_ ?_
        refine pu_ 5 22 HT_ ?_
        refine pu_ 6 23 HT_ ?_
        refine ta_ 3 20 HT_ HW_ hHeld ?_
        refine ta_ 7 24 HT_ HW_ hHeld ?_
        refine on_ 8 25 HT_ (fun K hK => ?_)
        refine gr_ 25 Tryd.func95 (laws_eqEnt.calls ((rd_T91 l0 x5_1).f0) ((rd_T91 l0 x5_1).f1) ((rd_T91 l1 x5_1).f0) ((rd_T91 l1 x5_1).f1) true _ A7.out) ?_
        rintro e w10 ⟨rfl, hb⟩
        refine ⟨_, rfl, ?_⟩
        replace HB := Aside0.mk (below_step oB hb)
        refine hk_ hK 25 oH (fun hHeld => ?_)
        clear hK K
        refine pu_ 9 26 HT_ ?_
        refine dn_ HT_ ?_
        try go_wp2
        go_roundg k1
        case measure => have := HK1.out; omega
        case rel => exact ⟨(wrap64 (x5_1 + 1)), oS, H', ⟨by have := HK1.out; omega⟩, ⟨oB⟩⟩
       ·obtain rfl := Option.some.inj H
        try go_wp2
        replace HB := Aside0.mk (below_drew1 HB.out)
        have p179 : (0 ≤ (x5_1 : Int)) = True := oT
        have q179 : (x5_1 < (l0.length : Int)) = True := oT
        obtain ⟨ad179, e179, hx179_0, hx179_1⟩ := at_T91 HR0.out x5_1 oa oa
        have hw179_1 := hx179_1
        have hw179_0 := hx179_0
        cases e179
        replace hx179_0 := cB HB hx179_0
        replace hx179_1 := cB HB hx179_1
        have p180 : (0 ≤ (x5_1 : Int)) = True := oT
        have q180 : (x5_1 < (l1.length : Int)) = True := oT
        obtain ⟨ad180, e180, hx180_0, hx180_1⟩ := at_T91 HR1.out x5_1 oa oa
        have hw180_1 := hx180_1
        have hw180_0 := hx180_0
        cases e180
        replace hx180_0 := cB HB hx180_0
        replace hx180_1 := cB HB hx180_1
        refine st_ 10 (fun w' => w'.cell? (ad179.add ((x5_1).toNat * 2)) = some (.string ((rd_T91 l0 x5_1).f0)) ∧ w'.cell? ⟨(ad179.add ((x5_1).toNat * 2)).block, (ad179.add ((x5_1).toNat * 2)).off + 1, none⟩ = some (.int .i64 ((rd_T91 l0 x5_1).f1)) ∧ w'.cell? (ad180.add ((x5_1).toNat * 2)) = some (.string ((rd_T91 l1 x5_1).f0)) ∧ w'.cell? ⟨(ad180.add ((x5_1).toNat * 2)).block, (ad180.add ((x5_1).toNat * 2)).off + 1, none⟩ = some (.int .i64 ((rd_T91 l1 x5_1).f1))) laws_eqEntS.tab6 laws_eqEntS.bits6 oH (fun hHeld HT_ HW_ => ?_)
        generalize wr.drew = w11 at HB hx179_0 hx179_1 hx180_0 hx180_1 hHeld ⊢
        refine pu_ 0 17 HT_ ?_
        refine pu_ 1 18 HT_ ?_
        refine pu_ 2 19 HT_ ?_
        refine pu_ 4 21 HT_ ?_
        refine pu_ 5 22 HT_ ?_
        refine pu_ 6 23 HT_ ?_
        refine ta_ 3 20 HT_ HW_ hHeld ?_
        refine ta_ 7 24 HT_ HW_ hHeld ?_
        refine on_ 8 25 HT_ (fun K hK => ?_)
        refine gr_ 25 Tryd.func95 (laws_eqEnt.calls ((rd_T91 l0 x5_1).f0) ((rd_T91 l0 x5_1).f1) ((rd_T91 l1 x5_1).f0) ((rd_T91 l1 x5_1).f1) false _ A7.out) ?_
        rintro e w12 ⟨rfl, hb⟩
        refine ⟨_, rfl, ?_⟩
        replace HB := Aside0.mk (below_step oB hb)
        refine hk_ hK 25 oH (fun hHeld => ?_)
        clear hK K
        refine pu_ 9 26 HT_ ?_
        refine dn_ HT_ ?_
        try go_wp2
        go_ret
        exact ⟨oE, oB⟩
      ·cases H
     ·cases H
    ·obtain rfl := Option.some.inj H
     go_wp2
     go_ret
     exact ⟨oE, oB⟩
 ·rw [if_neg c3] at H
  have c3b0 : ((l0.length : Int) == (l1.length : Int)) = false := beq_eq_false_iff_ne.mpr c3
  have c3b1 : ((l0.length : Int) != (l1.length : Int)) = true := bne_iff_ne.mpr c3
  have c3b2 : (l0.length == l1.length) = false := by first | simpa using c3 | (simp at c3 ⊢; omega)
  obtain rfl := Option.some.inj H
  go_enter Tryd.func73, Tryd.ntmps73
  go_wp2
  go_ret
  exact ⟨oE, oB⟩

/-! ### laws_eqAttr: function 96 -/
def laws_eqAttr.f (a0_0 : ByteArray) (a0_1 : ByteArray) (a1_0 : ByteArray) (a1_1 : ByteArray) : Option (Bool) := if a0_0.toList = a1_0.toList then (if a0_1.toList = a1_1.toList then (some true) else (some false)) else (some false)
set_option maxHeartbeats 8000000 in
set_option maxRecDepth 100000 in
theorem laws_eqAttr.calls (a0_0 : ByteArray) (a0_1 : ByteArray) (a1_0 : ByteArray) (a1_1 : ByteArray) (r : Bool) (w : World) (h : laws_eqAttr.f a0_0 a0_1 a1_0 a1_1 = some r) :
  Calls Tryd.prog 96 #[.agg #[.string a0_0, .string a0_1], .agg #[.string a1_0, .string a1_1]] w fun e w' => e = .returned (.bool r) ∧ Below w.heap.size w w' := by
 have hu87 := Tryd.underlying87
 have HB := Aside0.mk (Below.refl w.heap.size w)
 unfold laws_eqAttr.f at h
 have H := h
 clear h
 by_cases c3 : a0_0.toList = a1_0.toList
 ·rw [if_pos c3] at H
  have c3b0 : (a0_0.toList == a1_0.toList) = true := beq_iff_eq.mpr c3
  have c3b1 : (a0_0.toList != a1_0.toList) = false := bne_eq_false_iff_eq.mpr c3
  clear c3
  by_cases c4 : a0_1.toList = a1_1.toList
  ·rw [if_pos c4] at H
   have c4b0 : (a0_1.toList == a1_1.toList) = true := beq_iff_eq.mpr c4
   have c4b1 : (a0_1.toList != a1_1.toList) = false := bne_eq_false_iff_eq.mpr c4
   clear c4
   obtain rfl := Option.some.inj H
   go_enter Tryd.func96, Tryd.ntmps96
   go_wp2_with (first | ((with_reducible refine gate_dst (N := 2) rfl ?_); refine bx_ 2 #[.string a0_0, .string a0_1] 87 ?_; intro gb182 hg w5 hbox hb; have BK182 := Aside0.mk (hbox); have GW182 := gs_ hg; have GE182 := gs_ hg; replace HB := Aside0.mk (below_step oB hb); clear hb hbox hg) | ((with_reducible refine gate_dst (N := 3) rfl ?_); refine bx_ 3 #[.string a1_0, .string a1_1] 87 ?_; intro gb183 hg w6 hbox hb; have BK183 := Aside0.mk (hbox); have GW183 := gs_ hg; have GE183 := gs_ hg; have NB182_183 := nl_ hg BK182; have NB183_182 := nr_ hg BK182; replace BK182 := kb_ BK182 hb; replace HB := Aside0.mk (below_step oB hb); clear hb hbox hg; have hnb7 := NB182_183.out; have hnc7 := NB183_182.out; obtain ⟨⟨_, _⟩, _, _⟩ := z2 BK182; obtain ⟨⟨_, _⟩, _, _⟩ := z2 BK183))
   go_ret
   exact ⟨oE, oB⟩
  ·rw [if_neg c4] at H
   have c4b0 : (a0_1.toList == a1_1.toList) = false := beq_eq_false_iff_ne.mpr c4
   have c4b1 : (a0_1.toList != a1_1.toList) = true := bne_iff_ne.mpr c4
   obtain rfl := Option.some.inj H
   go_enter Tryd.func96, Tryd.ntmps96
   go_wp2_with (first | ((with_reducible refine gate_dst (N := 2) rfl ?_); refine bx_ 2 #[.string a0_0, .string a0_1] 87 ?_; intro gb182 hg w10 hbox hb; have BK182 := Aside0.mk (hbox); have GW182 := gs_ hg; have GE182 := gs_ hg; replace HB := Aside0.mk (below_step oB hb); clear hb hbox hg) | ((with_reducible refine gate_dst (N := 3) rfl ?_); refine bx_ 3 #[.string a1_0, .string a1_1] 87 ?_; intro gb183 hg w11 hbox hb; have BK183 := Aside0.mk (hbox); have GW183 := gs_ hg; have GE183 := gs_ hg; have NB182_183 := nl_ hg BK182; have NB183_182 := nr_ hg BK182; replace BK182 := kb_ BK182 hb; replace HB := Aside0.mk (below_step oB hb); clear hb hbox hg; have hnb12 := NB182_183.out; have hnc12 := NB183_182.out; obtain ⟨⟨_, _⟩, _, _⟩ := z2 BK182; obtain ⟨⟨_, _⟩, _, _⟩ := z2 BK183))
   go_ret
   exact ⟨oE, oB⟩
 ·rw [if_neg c3] at H
  have c3b0 : (a0_0.toList == a1_0.toList) = false := beq_eq_false_iff_ne.mpr c3
  have c3b1 : (a0_0.toList != a1_0.toList) = true := bne_iff_ne.mpr c3
  obtain rfl := Option.some.inj H
  go_enter Tryd.func96, Tryd.ntmps96
  go_wp2_with (first | ((with_reducible refine gate_dst (N := 2) rfl ?_); refine bx_ 2 #[.string a0_0, .string a0_1] 87 ?_; intro gb182 hg w15 hbox hb; have BK182 := Aside0.mk (hbox); have GW182 := gs_ hg; have GE182 := gs_ hg; replace HB := Aside0.mk (below_step oB hb); clear hb hbox hg) | ((with_reducible refine gate_dst (N := 3) rfl ?_); refine bx_ 3 #[.string a1_0, .string a1_1] 87 ?_; intro gb183 hg w16 hbox hb; have BK183 := Aside0.mk (hbox); have GW183 := gs_ hg; have GE183 := gs_ hg; have NB182_183 := nl_ hg BK182; have NB183_182 := nr_ hg BK182; replace BK182 := kb_ BK182 hb; replace HB := Aside0.mk (below_step oB hb); clear hb hbox hg; have hnb17 := NB182_183.out; have hnc17 := NB183_182.out; obtain ⟨⟨_, _⟩, _, _⟩ := z2 BK182; obtain ⟨⟨_, _⟩, _, _⟩ := z2 BK183))
  go_ret
  exact ⟨oE, oB⟩

/-! ### laws_eqAttrS: function 74 -/
def laws_eqAttrS.l0 : Nat → List (S87) → List (S87) → Int → Option (Bool)
 | 0, _, _, _ => none
 | k + 1, x0, x1, x5 => if x5 < (x0.length : Int) then (if 0 ≤ x5 then (if x5 < (x1.length : Int) then ((laws_eqAttr.f ((rd_T87 x0 x5).f0) ((rd_T87 x0 x5).f1) ((rd_T87 x1 x5).f0) ((rd_T87 x1 x5).f1)).bind fun t186 => (if t186 = true then (laws_eqAttrS.l0 k x0 x1 (wrap64 (x5 + 1))) else (some false))) else (none)) else (none)) else (some true)
def laws_eqAttrS.f (k : Nat) (l0 : List (S87)) (l1 : List (S87)) : Option (Bool) := if (l0.length : Int) = (l1.length : Int) then (laws_eqAttrS.l0 k l0 l1 0) else (some false)
def laws_eqAttrS.T6 : Bool × List (List Nat × List Nat) := (true, [([], []), ([], []), ([0, 1], [0, 1]), ([2], [2]), ([], []), ([], []), ([4, 5], [4, 5]), ([6], [6]), ([3, 7], [3, 7]), ([8], [8])])
def laws_eqAttrS.B6 : List Nat := [0, 0, 3, 7, 0, 0, 48, 112, 255, 511]
theorem laws_eqAttrS.tab6 : rtab .any (opsOf Tryd.f74 6) = laws_eqAttrS.T6 := by kernel_rfl
theorem laws_eqAttrS.bits6 : waitsOk laws_eqAttrS.T6.2 laws_eqAttrS.B6 = true := by kernel_rfl
set_option maxHeartbeats 8000000 in
set_option maxRecDepth 100000 in
theorem laws_eqAttrS.calls (k : Nat) (A0 : Option Addr) (c0 : Nat) (l0 : List (S87)) (A1 : Option Addr) (c1 : Nat) (l1 : List (S87)) (r : Bool) (w : World) (hr0 : Kd.C k87 w A0 l0.length l0) (hc0 : l0.length ≤ c0) (hr1 : Kd.C k87 w A1 l1.length l1) (hc1 : l1.length ≤ c1) (h : laws_eqAttrS.f k l0 l1 = some r) :
  Calls Tryd.prog 74 #[.slice A0 l0.length c0, .slice A1 l1.length c1] w fun e w' => e = .returned (.bool r) ∧ Below w.heap.size w w' := by
 have hu87 := Tryd.underlying87
 have HR0 := Aside0.mk hr0
 have HC0 := Aside0.mk hc0
 clear hr0 hc0
 have HR1 := Aside0.mk hr1
 have HC1 := Aside0.mk hc1
 clear hr1 hc1
 have HB := Aside0.mk (Below.refl w.heap.size w)
 unfold laws_eqAttrS.f at h
 have H := h
 clear h
 by_cases c3 : (l0.length : Int) = (l1.length : Int)
 ·rw [if_pos c3] at H
  have c3b0 : ((l0.length : Int) == (l1.length : Int)) = true := beq_iff_eq.mpr c3
  have c3b1 : ((l0.length : Int) != (l1.length : Int)) = false := bne_eq_false_iff_eq.mpr c3
  have c3b2 : (l0.length == l1.length) = true := by first | simpa using c3 | (simp at c3 ⊢; omega)
  clear c3
  have H' := Aside0.mk H
  clear H
  go_enter Tryd.func74, Tryd.ntmps74
  go_wp2
  go_loopg [5] k (fun kq v5 w' => ∃ (x5_1 : Int), v5 = .int .i64 x5_1 ∧ Aside0 (laws_eqAttrS.l0 kq l0 l1 x5_1 = some r) ∧ Aside0 (kq ≤ k) ∧ Aside0 (Below w.heap.size w w'))
  case atStart => exact ⟨(0), oS, H', ⟨Nat.le_refl _⟩, ⟨oB⟩⟩
  case round =>
   clear H'
   try clear c1
   try clear c3
   obtain ⟨x5_1, rfl, HA, HK1, HB⟩ := hrel
   cases gk with
   | zero => exact absurd HA.out (by simp [laws_eqAttrS.l0])
   | succ k1 =>
    have H := HA.out
    clear HA
    simp only [laws_eqAttrS.l0] at H
    replace H := itD H
    rcases H with ⟨c4b0, H⟩ | ⟨c4b0, H⟩
    ·replace H := itD H
     rcases H with ⟨c5b0, H⟩ | ⟨c5b0, H⟩
     ·replace H := itD H
      rcases H with ⟨c6b0, H⟩ | ⟨c6b0, H⟩
      ·replace H := bA H
       obtain ⟨t186, A7, H⟩ := H
       try dsimp only at H
       replace H := itB H
       rcases H with ⟨rfl, H⟩ | ⟨rfl, H⟩
       ·have H' := Aside0.mk H
        clear H
        try go_wp2
        replace HB := Aside0.mk (below_drew1 HB.out)
        have p184 : (0 ≤ (x5_1 : Int)) = True := oT
        have q184 : (x5_1 < (l0.length : Int)) = True := oT
        obtain ⟨ad184, e184, hx184_0, hx184_1⟩ := at_T87 HR0.out x5_1 oa oa
        have hw184_1 := hx184_1
        have hw184_0 := hx184_0
        cases e184
        replace hx184_0 := cB HB hx184_0
        replace hx184_1 := cB HB hx184_1
        have p185 : (0 ≤ (x5_1 : Int)) = True := oT
        have q185 : (x5_1 < (l1.length : Int)) = True := oT
        obtain ⟨ad185, e185, hx185_0, hx185_1⟩ := at_T87 HR1.out x5_1 oa oa
        have hw185_1 := hx185_1
        have hw185_0 := hx185_0
        cases e185
        replace hx185_0 := cB HB hx185_0
        replace hx185_1 := cB HB hx185_1
        refine st_ 10 (fun w' => w'.cell? (ad184.add ((x5_1).toNat * 2)) = some (.string ((rd_T87 l0 x5_1).f0)) ∧ w'.cell? ⟨(ad184.add ((x5_1).toNat * 2)).block, (ad184.add ((x5_1).toNat * 2)).off + 1, none⟩ = some (.string ((rd_T87 l0 x5_1).f1)) ∧ w'.cell? (ad185.add ((x5_1).toNat * 2)) = some (.string ((rd_T87 l1 x5_1).f0)) ∧ w'.cell? ⟨(ad185.add ((x5_1).toNat * 2)).block, (ad185.add ((x5_1).toNat * 2)).off + 1, none⟩ = some (.string ((rd_T87 l1 x5_1).f1))) laws_eqAttrS.tab6 laws_eqAttrS.bits6 oH (fun hHeld HT_ HW_ => ?_)
        generalize wr.drew = w9 at HB hx184_0 hx184_1 hx185_0 hx185_1 hHeld ⊢
        refine pu_ 0 17 HT_ ?_
        refine pu_ 1 18 HT_ ?_
        refine pu_ 2 19 HT_ ?_
        refine pu_ 4 21 HT_ ?_
        refine pu_ 5 22 HT_ ?_
        refine pu_ 6 23 HT_ ?_
        refine ta_ 3 20 HT_ HW_ hHeld ?_
        refine ta_ 7 24 HT_ HW_ hHeld ?_
        refine on_ 8 25 HT_ (fun K hK => ?_)
        refine gr_ 25 Tryd.func96 (laws_eqAttr.calls ((rd_T87 l0 x5_1).f0) ((rd_T87 l0 x5_1).f1) ((rd_T87 l1 x5_1).f0) ((rd_T87 l1 x5_1).f1) true _ A7.out) ?_
        rintro e w10 ⟨rfl, hb⟩
        refine ⟨_, rfl, ?_⟩
        replace HB := Aside0.mk (below_step oB hb)
        refine hk_ hK 25 oH (fun hHeld => ?_)
        clear hK K
        refine pu_ 9 26 HT_ ?_
        refine dn_ HT_ ?_
        try go_wp2
        go_roundg k1
        case measure => have := HK1.out; omega
        case rel => exact ⟨(wrap64 (x5_1 + 1)), oS, H', ⟨by have := HK1.out; omega⟩, ⟨oB⟩⟩
       ·obtain rfl := Option.some.inj H
        try go_wp2
        replace HB := Aside0.mk (below_drew1 HB.out)
        have p184 : (0 ≤ (x5_1 : Int)) = True := oT
        have q184 : (x5_1 < (l0.length : Int)) = True := oT
        obtain ⟨ad184, e184, hx184_0, hx184_1⟩ := at_T87 HR0.out x5_1 oa oa
        have hw184_1 := hx184_1
        have hw184_0 := hx184_0
        cases e184
        replace hx184_0 := cB HB hx184_0
        replace hx184_1 := cB HB hx184_1
        have p185 : (0 ≤ (x5_1 : Int)) = True := oT
        have q185 : (x5_1 < (l1.length : Int)) = True := oT
        obtain ⟨ad185, e185, hx185_0, hx185_1⟩ := at_T87 HR1.out x5_1 oa oa
        have hw185_1 := hx185_1
        have hw185_0 := hx185_0
        cases e185
        replace hx185_0 := cB HB hx185_0
        replace hx185_1 := cB HB hx185_1
        refine st_ 10 (fun w' => w'.cell? (ad184.add ((x5_1).toNat * 2)) = some (.string ((rd_T87 l0 x5_1).f0)) ∧ w'.cell? ⟨(ad184.add ((x5_1).toNat * 2)).block, (ad184.add ((x5_1).toNat * 2)).off + 1, none⟩ = some (.string ((rd_T87 l0 x5_1).f1)) ∧ w'.cell? (ad185.add ((x5_1).toNat * 2)) = some (.string ((rd_T87 l1 x5_1).f0)) ∧ w'.cell? ⟨(ad185.add ((x5_1).toNat * 2)).block, (ad185.add ((x5_1).toNat * 2)).off + 1, none⟩ = some (.string ((rd_T87 l1 x5_1).f1))) laws_eqAttrS.tab6 laws_eqAttrS.bits6 oH (fun hHeld HT_ HW_ => ?_)
        generalize wr.drew = w11 at HB hx184_0 hx184_1 hx185_0 hx185_1 hHeld ⊢
        refine pu_ 0 17 HT_ ?_
        refine pu_ 1 18 HT_ ?_
        refine pu_ 2 19 HT_ ?_
        refine pu_ 4 21 HT_ ?_
        refine pu_ 5 22 HT_ ?_
        refine pu_ 6 23 HT_ ?_
        refine ta_ 3 20 HT_ HW_ hHeld ?_
        refine ta_ 7 24 HT_ HW_ hHeld ?_
        refine on_ 8 25 HT_ (fun K hK => ?_)
        refine gr_ 25 Tryd.func96 (laws_eqAttr.calls ((rd_T87 l0 x5_1).f0) ((rd_T87 l0 x5_1).f1) ((rd_T87 l1 x5_1).f0) ((rd_T87 l1 x5_1).f1) false _ A7.out) ?_
        rintro e w12 ⟨rfl, hb⟩
        refine ⟨_, rfl, ?_⟩
        replace HB := Aside0.mk (below_step oB hb)
        refine hk_ hK 25 oH (fun hHeld => ?_)
        clear hK K
        refine pu_ 9 26 HT_ ?_
        refine dn_ HT_ ?_
        try go_wp2
        go_ret
        exact ⟨oE, oB⟩
      ·cases H
     ·cases H
    ·obtain rfl := Option.some.inj H
     go_wp2
     go_ret
     exact ⟨oE, oB⟩
 ·rw [if_neg c3] at H
  have c3b0 : ((l0.length : Int) == (l1.length : Int)) = false := beq_eq_false_iff_ne.mpr c3
  have c3b1 : ((l0.length : Int) != (l1.length : Int)) = true := bne_iff_ne.mpr c3
  have c3b2 : (l0.length == l1.length) = false := by first | simpa using c3 | (simp at c3 ⊢; omega)
  obtain rfl := Option.some.inj H
  go_enter Tryd.func74, Tryd.ntmps74
  go_wp2
  go_ret
  exact ⟨oE, oB⟩

/-! ### laws_eqInode: function 49 -/
def laws_eqInode.f (k : Nat) (a0_0 : Int) (a0_1 : Int) (a0_2 : Int) (l0_3 : List Int) (l0_4 : List (S91)) (l0_5 : List (S87)) (a1_0 : Int) (a1_1 : Int) (a1_2 : Int) (l1_3 : List Int) (l1_4 : List (S91)) (l1_5 : List (S87)) : Option (Bool) := if a0_0 = a1_0 then (if a0_1 = a1_1 then (if a0_2 = a1_2 then ((laws_eqByteS.f k l0_3 l1_3).bind fun t189 => (if t189 = true then ((laws_eqEntS.f k l0_4 l1_4).bind fun t190 => (if t190 = true then ((laws_eqAttrS.f k l0_5 l1_5).bind fun t191 => (if t191 = true then (some true) else (some false))) else (some false))) else (some false))) else (some false)) else (some false)) else (some false)
set_option maxHeartbeats 8000000 in
set_option maxRecDepth 100000 in
theorem laws_eqInode.calls (k : Nat) (a0_0 : Int) (a0_1 : Int) (a0_2 : Int) (A0_3 : Option Addr) (c0_3 : Nat) (l0_3 : List Int) (A0_4 : Option Addr) (c0_4 : Nat) (l0_4 : List (S91)) (A0_5 : Option Addr) (c0_5 : Nat) (l0_5 : List (S87)) (a1_0 : Int) (a1_1 : Int) (a1_2 : Int) (A1_3 : Option Addr) (c1_3 : Nat) (l1_3 : List Int) (A1_4 : Option Addr) (c1_4 : Nat) (l1_4 : List (S91)) (A1_5 : Option Addr) (c1_5 : Nat) (l1_5 : List (S87)) (r : Bool) (w : World) (hr0_3 : Kd.C (Kd.int .u8) w A0_3 l0_3.length l0_3) (hc0_3 : l0_3.length ≤ c0_3) (hr0_4 : Kd.C k91 w A0_4 l0_4.length l0_4) (hc0_4 : l0_4.length ≤ c0_4) (hr0_5 : Kd.C k87 w A0_5 l0_5.length l0_5) (hc0_5 : l0_5.length ≤ c0_5) (hr1_3 : Kd.C (Kd.int .u8) w A1_3 l1_3.length l1_3) (hc1_3 : l1_3.length ≤ c1_3) (hr1_4 : Kd.C k91 w A1_4 l1_4.length l1_4) (hc1_4 : l1_4.length ≤ c1_4) (hr1_5 : Kd.C k87 w A1_5 l1_5.length l1_5) (hc1_5 : l1_5.length ≤ c1_5) (h : laws_eqInode.f k a0_0 a0_1 a0_2 l0_3 l0_4 l0_5 a1_0 a1_1 a1_2 l1_3 l1_4 l1_5 = some r) :
  Calls Tryd.prog 49 #[.agg #[.int .i64 a0_0, .int .i64 a0_1, .int .i64 a0_2, .slice A0_3 l0_3.length c0_3, .slice A0_4 l0_4.length c0_4, .slice A0_5 l0_5.length c0_5], .agg #[.int .i64 a1_0, .int .i64 a1_1, .int .i64 a1_2, .slice A1_3 l1_3.length c1_3, .slice A1_4 l1_4.length c1_4, .slice A1_5 l1_5.length c1_5]] w fun e w' => e = .returned (.bool r) ∧ Below w.heap.size w w' := by
 have hu64 := Tryd.underlying64
 have HR0_3 := Aside0.mk hr0_3
 have HC0_3 := Aside0.mk hc0_3
 clear hr0_3 hc0_3
 have HR0_4 := Aside0.mk hr0_4
 have HC0_4 := Aside0.mk hc0_4
 clear hr0_4 hc0_4
 have HR0_5 := Aside0.mk hr0_5
 have HC0_5 := Aside0.mk hc0_5
 clear hr0_5 hc0_5
 have HR1_3 := Aside0.mk hr1_3
 have HC1_3 := Aside0.mk hc1_3
 clear hr1_3 hc1_3
 have HR1_4 := Aside0.mk hr1_4
 have HC1_4 := Aside0.mk hc1_4
 clear hr1_4 hc1_4
 have HR1_5 := Aside0.mk hr1_5
 have HC1_5 := Aside0.mk hc1_5
 clear hr1_5 hc1_5
 have HB := Aside0.mk (Below.refl w.heap.size w)
 unfold laws_eqInode.f at h
 have H := h
 clear h
 by_cases c3 : a0_0 = a1_0
 ·rw [if_pos c3] at H
  have c3b0 : (a0_0 == a1_0) = true := beq_iff_eq.mpr c3
  have c3b1 : (a0_0 != a1_0) = false := bne_eq_false_iff_eq.mpr c3
  clear c3
  by_cases c4 : a0_1 = a1_1
  ·rw [if_pos c4] at H
   have c4b0 : (a0_1 == a1_1) = true := beq_iff_eq.mpr c4
   have c4b1 : (a0_1 != a1_1) = false := bne_eq_false_iff_eq.mpr c4
   clear c4
   by_cases c5 : a0_2 = a1_2
   ·rw [if_pos c5] at H
    have c5b0 : (a0_2 == a1_2) = true := beq_iff_eq.mpr c5
    have c5b1 : (a0_2 != a1_2) = false := bne_eq_false_iff_eq.mpr c5
    clear c5
    replace H := bA H
    obtain ⟨t189, A6, H⟩ := H
    try dsimp only at H
    replace H := itB H
    rcases H with ⟨rfl, H⟩ | ⟨rfl, H⟩
    ·replace H := bA H
     obtain ⟨t190, A8, H⟩ := H
     try dsimp only at H
     replace H := itB H
     rcases H with ⟨rfl, H⟩ | ⟨rfl, H⟩
     ·replace H := bA H
      obtain ⟨t191, A10, H⟩ := H
      try dsimp only at H
      replace H := itB H
      rcases H with ⟨rfl, H⟩ | ⟨rfl, H⟩
      ·obtain rfl := Option.some.inj H
       go_enter Tryd.func49, Tryd.ntmps49
       go_wp2_with (first | ((with_reducible refine gate_dst (N := 2) rfl ?_); refine bx_ 2 #[.int .i64 a0_0, .int .i64 a0_1, .int .i64 a0_2, .slice A0_3 l0_3.length c0_3, .slice A0_4 l0_4.length c0_4, .slice A0_5 l0_5.length c0_5] 64 ?_; intro gb187 hg w12 hbox hb; have BK187 := Aside0.mk (hbox); have GW187 := gs_ hg; have GE187 := gs_ hg; replace HB := Aside0.mk (below_step oB hb); clear hb hbox hg) | ((with_reducible refine gate_dst (N := 3) rfl ?_); refine bx_ 3 #[.int .i64 a1_0, .int .i64 a1_1, .int .i64 a1_2, .slice A1_3 l1_3.length c1_3, .slice A1_4 l1_4.length c1_4, .slice A1_5 l1_5.length c1_5] 64 ?_; intro gb188 hg w13 hbox hb; have BK188 := Aside0.mk (hbox); have GW188 := gs_ hg; have GE188 := gs_ hg; have NB187_188 := nl_ hg BK187; have NB188_187 := nr_ hg BK187; replace BK187 := kb_ BK187 hb; replace HB := Aside0.mk (below_step oB hb); clear hb hbox hg; have hnb14 := NB187_188.out; have hnc14 := NB188_187.out; obtain ⟨⟨_, _, _, _, _, _⟩, _, _, _, _, _, _⟩ := z6 BK187; obtain ⟨⟨_, _, _, _, _, _⟩, _, _, _, _, _, _⟩ := z6 BK188) | ((with_reducible refine gate_callee (f := 41) rfl ?_); refine gl_ 24 Tryd.func41 (laws_eqByteS.calls k _ _ l0_3 _ _ l1_3 true _ (kC HR0_3) HC0_3.out (kC HR1_3) HC1_3.out A6.out) ?_; rintro e w' ⟨rfl, ⟨nd, rfl⟩⟩; refine ⟨_, rfl, ?_⟩) | ((with_reducible refine gate_callee (f := 73) rfl ?_); refine gl_ 30 Tryd.func73 (laws_eqEntS.calls k _ _ l0_4 _ _ l1_4 true _ (kC HR0_4) HC0_4.out (kC HR1_4) HC1_4.out A8.out) ?_; rintro e w17 ⟨rfl, hb⟩; refine ⟨_, rfl, ?_⟩; replace BK187 := kb_ BK187 hb; replace BK188 := kb_ BK188 hb; replace HB := Aside0.mk (below_step oB hb); obtain ⟨⟨_, _, _, _, _, _⟩, _, _, _, _, _, _⟩ := z6 BK187; obtain ⟨⟨_, _, _, _, _, _⟩, _, _, _, _, _, _⟩ := z6 BK188) | ((with_reducible refine gate_callee (f := 74) rfl ?_); refine gl_ 36 Tryd.func74 (laws_eqAttrS.calls k _ _ l0_5 _ _ l1_5 true _ (kC HR0_5) HC0_5.out (kC HR1_5) HC1_5.out A10.out) ?_; rintro e w20 ⟨rfl, hb⟩; refine ⟨_, rfl, ?_⟩; replace BK187 := kb_ BK187 hb; replace BK188 := kb_ BK188 hb; replace HB := Aside0.mk (below_step oB hb)))
       go_ret
       exact ⟨oE, oB⟩
      ·obtain rfl := Option.some.inj H
       go_enter Tryd.func49, Tryd.ntmps49
       go_wp2_with (first | ((with_reducible refine gate_dst (N := 2) rfl ?_); refine bx_ 2 #[.int .i64 a0_0, .int .i64 a0_1, .int .i64 a0_2, .slice A0_3 l0_3.length c0_3, .slice A0_4 l0_4.length c0_4, .slice A0_5 l0_5.length c0_5] 64 ?_; intro gb187 hg w21 hbox hb; have BK187 := Aside0.mk (hbox); have GW187 := gs_ hg; have GE187 := gs_ hg; replace HB := Aside0.mk (below_step oB hb); clear hb hbox hg) | ((with_reducible refine gate_dst (N := 3) rfl ?_); refine bx_ 3 #[.int .i64 a1_0, .int .i64 a1_1, .int .i64 a1_2, .slice A1_3 l1_3.length c1_3, .slice A1_4 l1_4.length c1_4, .slice A1_5 l1_5.length c1_5] 64 ?_; intro gb188 hg w22 hbox hb; have BK188 := Aside0.mk (hbox); have GW188 := gs_ hg; have GE188 := gs_ hg; have NB187_188 := nl_ hg BK187; have NB188_187 := nr_ hg BK187; replace BK187 := kb_ BK187 hb; replace HB := Aside0.mk (below_step oB hb); clear hb hbox hg; have hnb23 := NB187_188.out; have hnc23 := NB188_187.out; obtain ⟨⟨_, _, _, _, _, _⟩, _, _, _, _, _, _⟩ := z6 BK187; obtain ⟨⟨_, _, _, _, _, _⟩, _, _, _, _, _, _⟩ := z6 BK188) | ((with_reducible refine gate_callee (f := 41) rfl ?_); refine gl_ 24 Tryd.func41 (laws_eqByteS.calls k _ _ l0_3 _ _ l1_3 true _ (kC HR0_3) HC0_3.out (kC HR1_3) HC1_3.out A6.out) ?_; rintro e w' ⟨rfl, ⟨nd, rfl⟩⟩; refine ⟨_, rfl, ?_⟩) | ((with_reducible refine gate_callee (f := 73) rfl ?_); refine gl_ 30 Tryd.func73 (laws_eqEntS.calls k _ _ l0_4 _ _ l1_4 true _ (kC HR0_4) HC0_4.out (kC HR1_4) HC1_4.out A8.out) ?_; rintro e w26 ⟨rfl, hb⟩; refine ⟨_, rfl, ?_⟩; replace BK187 := kb_ BK187 hb; replace BK188 := kb_ BK188 hb; replace HB := Aside0.mk (below_step oB hb); obtain ⟨⟨_, _, _, _, _, _⟩, _, _, _, _, _, _⟩ := z6 BK187; obtain ⟨⟨_, _, _, _, _, _⟩, _, _, _, _, _, _⟩ := z6 BK188) | ((with_reducible refine gate_callee (f := 74) rfl ?_); refine gl_ 36 Tryd.func74 (laws_eqAttrS.calls k _ _ l0_5 _ _ l1_5 false _ (kC HR0_5) HC0_5.out (kC HR1_5) HC1_5.out A10.out) ?_; rintro e w29 ⟨rfl, hb⟩; refine ⟨_, rfl, ?_⟩; replace BK187 := kb_ BK187 hb; replace BK188 := kb_ BK188 hb; replace HB := Aside0.mk (below_step oB hb)))
       go_ret
       exact ⟨oE, oB⟩
     ·obtain rfl := Option.some.inj H
      go_enter Tryd.func49, Tryd.ntmps49
      go_wp2_with (first | ((with_reducible refine gate_dst (N := 2) rfl ?_); refine bx_ 2 #[.int .i64 a0_0, .int .i64 a0_1, .int .i64 a0_2, .slice A0_3 l0_3.length c0_3, .slice A0_4 l0_4.length c0_4, .slice A0_5 l0_5.length c0_5] 64 ?_; intro gb187 hg w30 hbox hb; have BK187 := Aside0.mk (hbox); have GW187 := gs_ hg; have GE187 := gs_ hg; replace HB := Aside0.mk (below_step oB hb); clear hb hbox hg) | ((with_reducible refine gate_dst (N := 3) rfl ?_); refine bx_ 3 #[.int .i64 a1_0, .int .i64 a1_1, .int .i64 a1_2, .slice A1_3 l1_3.length c1_3, .slice A1_4 l1_4.length c1_4, .slice A1_5 l1_5.length c1_5] 64 ?_; intro gb188 hg w31 hbox hb; have BK188 := Aside0.mk (hbox); have GW188 := gs_ hg; have GE188 := gs_ hg; have NB187_188 := nl_ hg BK187; have NB188_187 := nr_ hg BK187; replace BK187 := kb_ BK187 hb; replace HB := Aside0.mk (below_step oB hb); clear hb hbox hg; have hnb32 := NB187_188.out; have hnc32 := NB188_187.out; obtain ⟨⟨_, _, _, _, _, _⟩, _, _, _, _, _, _⟩ := z6 BK187; obtain ⟨⟨_, _, _, _, _, _⟩, _, _, _, _, _, _⟩ := z6 BK188) | ((with_reducible refine gate_callee (f := 41) rfl ?_); refine gl_ 24 Tryd.func41 (laws_eqByteS.calls k _ _ l0_3 _ _ l1_3 true _ (kC HR0_3) HC0_3.out (kC HR1_3) HC1_3.out A6.out) ?_; rintro e w' ⟨rfl, ⟨nd, rfl⟩⟩; refine ⟨_, rfl, ?_⟩) | ((with_reducible refine gate_callee (f := 73) rfl ?_); refine gl_ 30 Tryd.func73 (laws_eqEntS.calls k _ _ l0_4 _ _ l1_4 false _ (kC HR0_4) HC0_4.out (kC HR1_4) HC1_4.out A8.out) ?_; rintro e w35 ⟨rfl, hb⟩; refine ⟨_, rfl, ?_⟩; replace BK187 := kb_ BK187 hb; replace BK188 := kb_ BK188 hb; replace HB := Aside0.mk (below_step oB hb)))
      go_ret
      exact ⟨oE, oB⟩
    ·obtain rfl := Option.some.inj H
     go_enter Tryd.func49, Tryd.ntmps49
     go_wp2_with (first | ((with_reducible refine gate_dst (N := 2) rfl ?_); refine bx_ 2 #[.int .i64 a0_0, .int .i64 a0_1, .int .i64 a0_2, .slice A0_3 l0_3.length c0_3, .slice A0_4 l0_4.length c0_4, .slice A0_5 l0_5.length c0_5] 64 ?_; intro gb187 hg w36 hbox hb; have BK187 := Aside0.mk (hbox); have GW187 := gs_ hg; have GE187 := gs_ hg; replace HB := Aside0.mk (below_step oB hb); clear hb hbox hg) | ((with_reducible refine gate_dst (N := 3) rfl ?_); refine bx_ 3 #[.int .i64 a1_0, .int .i64 a1_1, .int .i64 a1_2, .slice A1_3 l1_3.length c1_3, .slice A1_4 l1_4.length c1_4, .slice A1_5 l1_5.length c1_5] 64 ?_; intro gb188 hg w37 hbox hb; have BK188 := Aside0.mk (hbox); have GW188 := gs_ hg; have GE188 := gs_ hg; have NB187_188 := nl_ hg BK187; have NB188_187 := nr_ hg BK187; replace BK187 := kb_ BK187 hb; replace HB := Aside0.mk (below_step oB hb); clear hb hbox hg; have hnb38 := NB187_188.out; have hnc38 := NB188_187.out; obtain ⟨⟨_, _, _, _, _, _⟩, _, _, _, _, _, _⟩ := z6 BK187; obtain ⟨⟨_, _, _, _, _, _⟩, _, _, _, _, _, _⟩ := z6 BK188) | ((with_reducible refine gate_callee (f := 41) rfl ?_); refine gl_ 24 Tryd.func41 (laws_eqByteS.calls k _ _ l0_3 _ _ l1_3 false _ (kC HR0_3) HC0_3.out (kC HR1_3) HC1_3.out A6.out) ?_; rintro e w' ⟨rfl, ⟨nd, rfl⟩⟩; refine ⟨_, rfl, ?_⟩))
     go_ret
     exact ⟨oE, oB⟩
   ·rw [if_neg c5] at H
    have c5b0 : (a0_2 == a1_2) = false := beq_eq_false_iff_ne.mpr c5
    have c5b1 : (a0_2 != a1_2) = true := bne_iff_ne.mpr c5
    obtain rfl := Option.some.inj H
    go_enter Tryd.func49, Tryd.ntmps49
    go_wp2_with (first | ((with_reducible refine gate_dst (N := 2) rfl ?_); refine bx_ 2 #[.int .i64 a0_0, .int .i64 a0_1, .int .i64 a0_2, .slice A0_3 l0_3.length c0_3, .slice A0_4 l0_4.length c0_4, .slice A0_5 l0_5.length c0_5] 64 ?_; intro gb187 hg w41 hbox hb; have BK187 := Aside0.mk (hbox); have GW187 := gs_ hg; have GE187 := gs_ hg; replace HB := Aside0.mk (below_step oB hb); clear hb hbox hg) | ((with_reducible refine gate_dst (N := 3) rfl ?_); refine bx_ 3 #[.int .i64 a1_0, .int .i64 a1_1, .int .i64 a1_2, .slice A1_3 l1_3.length c1_3, .slice A1_4 l1_4.length c1_4, .slice A1_5 l1_5.length c1_5] 64 ?_; intro gb188 hg w42 hbox hb; have BK188 := Aside0.mk (hbox); have GW188 := gs_ hg; have GE188 := gs_ hg; have NB187_188 := nl_ hg BK187; have NB188_187 := nr_ hg BK187; replace BK187 := kb_ BK187 hb; replace HB := Aside0.mk (below_step oB hb); clear hb hbox hg; have hnb43 := NB187_188.out; have hnc43 := NB188_187.out; obtain ⟨⟨_, _, _, _, _, _⟩, _, _, _, _, _, _⟩ := z6 BK187; obtain ⟨⟨_, _, _, _, _, _⟩, _, _, _, _, _, _⟩ := z6 BK188))
    go_ret
    exact ⟨oE, oB⟩
  ·rw [if_neg c4] at H
   have c4b0 : (a0_1 == a1_1) = false := beq_eq_false_iff_ne.mpr c4
   have c4b1 : (a0_1 != a1_1) = true := bne_iff_ne.mpr c4
   obtain rfl := Option.some.inj H
   go_enter Tryd.func49, Tryd.ntmps49
   go_wp2_with (first | ((with_reducible refine gate_dst (N := 2) rfl ?_); refine bx_ 2 #[.int .i64 a0_0, .int .i64 a0_1, .int .i64 a0_2, .slice A0_3 l0_3.length c0_3, .slice A0_4 l0_4.length c0_4, .slice A0_5 l0_5.length c0_5] 64 ?_; intro gb187 hg w46 hbox hb; have BK187 := Aside0.mk (hbox); have GW187 := gs_ hg; have GE187 := gs_ hg; replace HB := Aside0.mk (below_step oB hb); clear hb hbox hg) | ((with_reducible refine gate_dst (N := 3) rfl ?_); refine bx_ 3 #[.int .i64 a1_0, .int .i64 a1_1, .int .i64 a1_2, .slice A1_3 l1_3.length c1_3, .slice A1_4 l1_4.length c1_4, .slice A1_5 l1_5.length c1_5] 64 ?_; intro gb188 hg w47 hbox hb; have BK188 := Aside0.mk (hbox); have GW188 := gs_ hg; have GE188 := gs_ hg; have NB187_188 := nl_ hg BK187; have NB188_187 := nr_ hg BK187; replace BK187 := kb_ BK187 hb; replace HB := Aside0.mk (below_step oB hb); clear hb hbox hg; have hnb48 := NB187_188.out; have hnc48 := NB188_187.out; obtain ⟨⟨_, _, _, _, _, _⟩, _, _, _, _, _, _⟩ := z6 BK187; obtain ⟨⟨_, _, _, _, _, _⟩, _, _, _, _, _, _⟩ := z6 BK188))
   go_ret
   exact ⟨oE, oB⟩
 ·rw [if_neg c3] at H
  have c3b0 : (a0_0 == a1_0) = false := beq_eq_false_iff_ne.mpr c3
  have c3b1 : (a0_0 != a1_0) = true := bne_iff_ne.mpr c3
  obtain rfl := Option.some.inj H
  go_enter Tryd.func49, Tryd.ntmps49
  go_wp2_with (first | ((with_reducible refine gate_dst (N := 2) rfl ?_); refine bx_ 2 #[.int .i64 a0_0, .int .i64 a0_1, .int .i64 a0_2, .slice A0_3 l0_3.length c0_3, .slice A0_4 l0_4.length c0_4, .slice A0_5 l0_5.length c0_5] 64 ?_; intro gb187 hg w51 hbox hb; have BK187 := Aside0.mk (hbox); have GW187 := gs_ hg; have GE187 := gs_ hg; replace HB := Aside0.mk (below_step oB hb); clear hb hbox hg) | ((with_reducible refine gate_dst (N := 3) rfl ?_); refine bx_ 3 #[.int .i64 a1_0, .int .i64 a1_1, .int .i64 a1_2, .slice A1_3 l1_3.length c1_3, .slice A1_4 l1_4.length c1_4, .slice A1_5 l1_5.length c1_5] 64 ?_; intro gb188 hg w52 hbox hb; have BK188 := Aside0.mk (hbox); have GW188 := gs_ hg; have GE188 := gs_ hg; have NB187_188 := nl_ hg BK187; have NB188_187 := nr_ hg BK187; replace BK187 := kb_ BK187 hb; replace HB := Aside0.mk (below_step oB hb); clear hb hbox hg; have hnb53 := NB187_188.out; have hnc53 := NB188_187.out; obtain ⟨⟨_, _, _, _, _, _⟩, _, _, _, _, _, _⟩ := z6 BK187; obtain ⟨⟨_, _, _, _, _, _⟩, _, _, _, _, _, _⟩ := z6 BK188))
  go_ret
  exact ⟨oE, oB⟩

/-! ### laws_eqInodeS: function 69 -/
def laws_eqInodeS.l0 : Nat → List (S64) → List (S64) → Int → Option (Bool)
 | 0, _, _, _ => none
 | k + 1, x0, x1, x5 => if x5 < (x0.length : Int) then (if 0 ≤ x5 then (if x5 < (x1.length : Int) then ((laws_eqInode.f k ((rd_T64 x0 x5).f0) ((rd_T64 x0 x5).f1) ((rd_T64 x0 x5).f2) ((rd_T64 x0 x5).f3) ((rd_T64 x0 x5).f4) ((rd_T64 x0 x5).f5) ((rd_T64 x1 x5).f0) ((rd_T64 x1 x5).f1) ((rd_T64 x1 x5).f2) ((rd_T64 x1 x5).f3) ((rd_T64 x1 x5).f4) ((rd_T64 x1 x5).f5)).bind fun t194 => (if t194 = true then (laws_eqInodeS.l0 k x0 x1 (wrap64 (x5 + 1))) else (some false))) else (none)) else (none)) else (some true)
def laws_eqInodeS.f (k : Nat) (l0 : List (S64)) (l1 : List (S64)) : Option (Bool) := if (l0.length : Int) = (l1.length : Int) then (laws_eqInodeS.l0 k l0 l1 0) else (some false)
def laws_eqInodeS.T6 : Bool × List (List Nat × List Nat) := (true, [([], []), ([], []), ([0, 1], [0, 1]), ([2], [2]), ([], []), ([], []), ([4, 5], [4, 5]), ([6], [6]), ([3, 7], [3, 7]), ([8], [8])])
def laws_eqInodeS.B6 : List Nat := [0, 0, 3, 7, 0, 0, 48, 112, 255, 511]
theorem laws_eqInodeS.tab6 : rtab .any (opsOf Tryd.f69 6) = laws_eqInodeS.T6 := by kernel_rfl
theorem laws_eqInodeS.bits6 : waitsOk laws_eqInodeS.T6.2 laws_eqInodeS.B6 = true := by kernel_rfl
set_option maxHeartbeats 8000000 in
set_option maxRecDepth 100000 in
theorem laws_eqInodeS.calls (k : Nat) (A0 : Option Addr) (c0 : Nat) (l0 : List (S64)) (A1 : Option Addr) (c1 : Nat) (l1 : List (S64)) (r : Bool) (w : World) (hr0 : Kd.C k64 w A0 l0.length l0) (hc0 : l0.length ≤ c0) (hr1 : Kd.C k64 w A1 l1.length l1) (hc1 : l1.length ≤ c1) (h : laws_eqInodeS.f k l0 l1 = some r) :
  Calls Tryd.prog 69 #[.slice A0 l0.length c0, .slice A1 l1.length c1] w fun e w' => e = .returned (.bool r) ∧ Below w.heap.size w w' := by
 have hu64 := Tryd.underlying64
 have HR0 := Aside0.mk hr0
 have HC0 := Aside0.mk hc0
 clear hr0 hc0
 have HR1 := Aside0.mk hr1
 have HC1 := Aside0.mk hc1
 clear hr1 hc1
 have HB := Aside0.mk (Below.refl w.heap.size w)
 unfold laws_eqInodeS.f at h
 have H := h
 clear h
 by_cases c3 : (l0.length : Int) = (l1.length : Int)
 ·rw [if_pos c3] at H
  have c3b0 : ((l0.length : Int) == (l1.length : Int)) = true := beq_iff_eq.mpr c3
  have c3b1 : ((l0.length : Int) != (l1.length : Int)) = false := bne_eq_false_iff_eq.mpr c3
  have c3b2 : (l0.length == l1.length) = true := by first | simpa using c3 | (simp at c3 ⊢; omega)
  clear c3
  have H' := Aside0.mk H
  clear H
  go_enter Tryd.func69, Tryd.ntmps69
  go_wp2
  go_loopg [5] k (fun kq v5 w' => ∃ (x5_1 : Int), v5 = .int .i64 x5_1 ∧ Aside0 (laws_eqInodeS.l0 kq l0 l1 x5_1 = some r) ∧ Aside0 (kq ≤ k) ∧ Aside0 (Below w.heap.size w w'))
  case atStart => exact ⟨(0), oS, H', ⟨Nat.le_refl _⟩, ⟨oB⟩⟩
  case round =>
   clear H'
   try clear c1
   try clear c3
   obtain ⟨x5_1, rfl, HA, HK1, HB⟩ := hrel
   cases gk with
   | zero => exact absurd HA.out (by simp [laws_eqInodeS.l0])
   | succ k1 =>
    have H := HA.out
    clear HA
    simp only [laws_eqInodeS.l0] at H
    replace H := itD H
    rcases H with ⟨c4b0, H⟩ | ⟨c4b0, H⟩
    ·replace H := itD H
     rcases H with ⟨c5b0, H⟩ | ⟨c5b0, H⟩
     ·replace H := itD H
      rcases H with ⟨c6b0, H⟩ | ⟨c6b0, H⟩
      ·replace H := bA H
       obtain ⟨t194, A7, H⟩ := H
       try dsimp only at H
       replace H := itB H
       rcases H with ⟨rfl, H⟩ | ⟨rfl, H⟩
       ·have H' := Aside0.mk H
        clear H
        try go_wp2
        replace HB := Aside0.mk (below_drew1 HB.out)
        have p192 : (0 ≤ (x5_1 : Int)) = True := oT
        have q192 : (x5_1 < (l0.length : Int)) = True := oT
        obtain ⟨ad192, A192_3, c192_3, A192_4, c192_4, A192_5, c192_5, e192, hx192_0, hx192_1, hx192_2, hx192_3, hx192_4, hx192_5, hl192_3, hi192_3, hl192_4, hi192_4, hl192_5, hi192_5⟩ := at_T64 HR0.out x5_1 oa oa
        have hw192_5 := hx192_5
        have hw192_4 := hx192_4
        have hw192_3 := hx192_3
        have hw192_2 := hx192_2
        have hw192_1 := hx192_1
        have hw192_0 := hx192_0
        cases e192
        replace hx192_0 := cB HB hx192_0
        replace hx192_1 := cB HB hx192_1
        replace hx192_2 := cB HB hx192_2
        replace hx192_3 := cB HB hx192_3
        replace hx192_4 := cB HB hx192_4
        replace hx192_5 := cB HB hx192_5
        have HR192_3 := Aside0.mk hi192_3
        have HC192_3 := Aside0.mk hl192_3
        clear hi192_3 hl192_3
        have HR192_4 := Aside0.mk hi192_4
        have HC192_4 := Aside0.mk hl192_4
        clear hi192_4 hl192_4
        have HR192_5 := Aside0.mk hi192_5
        have HC192_5 := Aside0.mk hl192_5
        clear hi192_5 hl192_5
        have p193 : (0 ≤ (x5_1 : Int)) = True := oT
        have q193 : (x5_1 < (l1.length : Int)) = True := oT
        obtain ⟨ad193, A193_3, c193_3, A193_4, c193_4, A193_5, c193_5, e193, hx193_0, hx193_1, hx193_2, hx193_3, hx193_4, hx193_5, hl193_3, hi193_3, hl193_4, hi193_4, hl193_5, hi193_5⟩ := at_T64 HR1.out x5_1 oa oa
        have hw193_5 := hx193_5
        have hw193_4 := hx193_4
        have hw193_3 := hx193_3
        have hw193_2 := hx193_2
        have hw193_1 := hx193_1
        have hw193_0 := hx193_0
        cases e193
        replace hx193_0 := cB HB hx193_0
        replace hx193_1 := cB HB hx193_1
        replace hx193_2 := cB HB hx193_2
        replace hx193_3 := cB HB hx193_3
        replace hx193_4 := cB HB hx193_4
        replace hx193_5 := cB HB hx193_5
        have HR193_3 := Aside0.mk hi193_3
        have HC193_3 := Aside0.mk hl193_3
        clear hi193_3 hl193_3
        have HR193_4 := Aside0.mk hi193_4
        have HC193_4 := Aside0.mk hl193_4
        clear hi193_4 hl193_4
        have HR193_5 := Aside0.mk hi193_5
        have HC193_5 := Aside0.mk hl193_5
        clear hi193_5 hl193_5
        refine st_ 10 (fun w' => w'.cell? (ad192.add ((x5_1).toNat * 6)) = some (.int .i64 ((rd_T64 l0 x5_1).f0)) ∧ w'.cell? ⟨(ad192.add ((x5_1).toNat * 6)).block, (ad192.add ((x5_1).toNat * 6)).off + 1, none⟩ = some (.int .i64 ((rd_T64 l0 x5_1).f1)) ∧ w'.cell? ⟨(ad192.add ((x5_1).toNat * 6)).block, (ad192.add ((x5_1).toNat * 6)).off + 2, none⟩ = some (.int .i64 ((rd_T64 l0 x5_1).f2)) ∧ w'.cell? ⟨(ad192.add ((x5_1).toNat * 6)).block, (ad192.add ((x5_1).toNat * 6)).off + 3, none⟩ = some (.slice A192_3 ((rd_T64 l0 x5_1).f3).length c192_3) ∧ w'.cell? ⟨(ad192.add ((x5_1).toNat * 6)).block, (ad192.add ((x5_1).toNat * 6)).off + 4, none⟩ = some (.slice A192_4 ((rd_T64 l0 x5_1).f4).length c192_4) ∧ w'.cell? ⟨(ad192.add ((x5_1).toNat * 6)).block, (ad192.add ((x5_1).toNat * 6)).off + 5, none⟩ = some (.slice A192_5 ((rd_T64 l0 x5_1).f5).length c192_5) ∧ w'.cell? (ad193.add ((x5_1).toNat * 6)) = some (.int .i64 ((rd_T64 l1 x5_1).f0)) ∧ w'.cell? ⟨(ad193.add ((x5_1).toNat * 6)).block, (ad193.add ((x5_1).toNat * 6)).off + 1, none⟩ = some (.int .i64 ((rd_T64 l1 x5_1).f1)) ∧ w'.cell? ⟨(ad193.add ((x5_1).toNat * 6)).block, (ad193.add ((x5_1).toNat * 6)).off + 2, none⟩ = some (.int .i64 ((rd_T64 l1 x5_1).f2)) ∧ w'.cell? ⟨(ad193.add ((x5_1).toNat * 6)).block, (ad193.add ((x5_1).toNat * 6)).off + 3, none⟩ = some (.slice A193_3 ((rd_T64 l1 x5_1).f3).length c193_3) ∧ w'.cell? ⟨(ad193.add ((x5_1).toNat * 6)).block, (ad193.add ((x5_1).toNat * 6)).off + 4, none⟩ = some (.slice A193_4 ((rd_T64 l1 x5_1).f4).length c193_4) ∧ w'.cell? ⟨(ad193.add ((x5_1).toNat * 6)).block, (ad193.add ((x5_1).toNat * 6)).off + 5, none⟩ = some (.slice A193_5 ((rd_T64 l1 x5_1).f5).length c193_5)) laws_eqInodeS.tab6 laws_eqInodeS.bits6 oH (fun hHeld HT_ HW_ => ?_)
        generalize wr.drew = w9 at HB HR192_3 HR192_4 HR192_5 HR193_3 HR193_4 HR193_5 hx192_0 hx192_1 hx192_2 hx192_3 hx192_4 hx192_5 hx193_0 hx193_1 hx193_2 hx193_3 hx193_4 hx193_5 hHeld ⊢
        refine pu_ 0 17 HT_ ?_
        refine pu_ 1 18 HT_ ?_
        refine pu_ 2 19 HT_ ?_
        refine pu_ 4 21 HT_ ?_
        refine pu_ 5 22 HT_ ?_
        refine pu_ 6 23 HT_ ?_
        refine ta_ 3 20 HT_ HW_ hHeld ?_
        refine ta_ 7 24 HT_ HW_ hHeld ?_
        refine on_ 8 25 HT_ (fun K hK => ?_)
        refine gr_ 25 Tryd.func49 (laws_eqInode.calls k1 ((rd_T64 l0 x5_1).f0) ((rd_T64 l0 x5_1).f1) ((rd_T64 l0 x5_1).f2) _ _ ((rd_T64 l0 x5_1).f3) _ _ ((rd_T64 l0 x5_1).f4) _ _ ((rd_T64 l0 x5_1).f5) ((rd_T64 l1 x5_1).f0) ((rd_T64 l1 x5_1).f1) ((rd_T64 l1 x5_1).f2) _ _ ((rd_T64 l1 x5_1).f3) _ _ ((rd_T64 l1 x5_1).f4) _ _ ((rd_T64 l1 x5_1).f5) true _ (kC HR192_3) HC192_3.out (kC HR192_4) HC192_4.out (kC HR192_5) HC192_5.out (kC HR193_3) HC193_3.out (kC HR193_4) HC193_4.out (kC HR193_5) HC193_5.out A7.out) ?_
        rintro e w10 ⟨rfl, hb⟩
        refine ⟨_, rfl, ?_⟩
        replace HB := Aside0.mk (below_step oB hb)
        refine hk_ hK 25 oH (fun hHeld => ?_)
        clear hK K
        refine pu_ 9 26 HT_ ?_
        refine dn_ HT_ ?_
        try go_wp2
        go_roundg k1
        case measure => have := HK1.out; omega
        case rel => exact ⟨(wrap64 (x5_1 + 1)), oS, H', ⟨by have := HK1.out; omega⟩, ⟨oB⟩⟩
       ·obtain rfl := Option.some.inj H
        try go_wp2
        replace HB := Aside0.mk (below_drew1 HB.out)
        have p192 : (0 ≤ (x5_1 : Int)) = True := oT
        have q192 : (x5_1 < (l0.length : Int)) = True := oT
        obtain ⟨ad192, A192_3, c192_3, A192_4, c192_4, A192_5, c192_5, e192, hx192_0, hx192_1, hx192_2, hx192_3, hx192_4, hx192_5, hl192_3, hi192_3, hl192_4, hi192_4, hl192_5, hi192_5⟩ := at_T64 HR0.out x5_1 oa oa
        have hw192_5 := hx192_5
        have hw192_4 := hx192_4
        have hw192_3 := hx192_3
        have hw192_2 := hx192_2
        have hw192_1 := hx192_1
        have hw192_0 := hx192_0
        cases e192
        replace hx192_0 := cB HB hx192_0
        replace hx192_1 := cB HB hx192_1
        replace hx192_2 := cB HB hx192_2
        replace hx192_3 := cB HB hx192_3
        replace hx192_4 := cB HB hx192_4
        replace hx192_5 := cB HB hx192_5
        have HR192_3 := Aside0.mk hi192_3
        have HC192_3 := Aside0.mk hl192_3
        clear hi192_3 hl192_3
        have HR192_4 := Aside0.mk hi192_4
        have HC192_4 := Aside0.mk hl192_4
        clear hi192_4 hl192_4
        have HR192_5 := Aside0.mk hi192_5
        have HC192_5 := Aside0.mk hl192_5
        clear hi192_5 hl192_5
        have p193 : (0 ≤ (x5_1 : Int)) = True := oT
        have q193 : (x5_1 < (l1.length : Int)) = True := oT
        obtain ⟨ad193, A193_3, c193_3, A193_4, c193_4, A193_5, c193_5, e193, hx193_0, hx193_1, hx193_2, hx193_3, hx193_4, hx193_5, hl193_3, hi193_3, hl193_4, hi193_4, hl193_5, hi193_5⟩ := at_T64 HR1.out x5_1 oa oa
        have hw193_5 := hx193_5
        have hw193_4 := hx193_4
        have hw193_3 := hx193_3
        have hw193_2 := hx193_2
        have hw193_1 := hx193_1
        have hw193_0 := hx193_0
        cases e193
        replace hx193_0 := cB HB hx193_0
        replace hx193_1 := cB HB hx193_1
        replace hx193_2 := cB HB hx193_2
        replace hx193_3 := cB HB hx193_3
        replace hx193_4 := cB HB hx193_4
        replace hx193_5 := cB HB hx193_5
        have HR193_3 := Aside0.mk hi193_3
        have HC193_3 := Aside0.mk hl193_3
        clear hi193_3 hl193_3
        have HR193_4 := Aside0.mk hi193_4
        have HC193_4 := Aside0.mk hl193_4
        clear hi193_4 hl193_4
        have HR193_5 := Aside0.mk hi193_5
        have HC193_5 := Aside0.mk hl193_5
        clear hi193_5 hl193_5
        refine st_ 10 (fun w' => w'.cell? (ad192.add ((x5_1).toNat * 6)) = some (.int .i64 ((rd_T64 l0 x5_1).f0)) ∧ w'.cell? ⟨(ad192.add ((x5_1).toNat * 6)).block, (ad192.add ((x5_1).toNat * 6)).off + 1, none⟩ = some (.int .i64 ((rd_T64 l0 x5_1).f1)) ∧ w'.cell? ⟨(ad192.add ((x5_1).toNat * 6)).block, (ad192.add ((x5_1).toNat * 6)).off + 2, none⟩ = some (.int .i64 ((rd_T64 l0 x5_1).f2)) ∧ w'.cell? ⟨(ad192.add ((x5_1).toNat * 6)).block, (ad192.add ((x5_1).toNat * 6)).off + 3, none⟩ = some (.slice A192_3 ((rd_T64 l0 x5_1).f3).length c192_3) ∧ w'.cell? ⟨(ad192.add ((x5_1).toNat * 6)).block, (ad192.add ((x5_1).toNat * 6)).off + 4, none⟩ = some (.slice A192_4 ((rd_T64 l0 x5_1).f4).length c192_4) ∧ w'.cell? ⟨(ad192.add ((x5_1).toNat * 6)).block, (ad192.add ((x5_1).toNat * 6)).off + 5, none⟩ = some (.slice A192_5 ((rd_T64 l0 x5_1).f5).length c192_5) ∧ w'.cell? (ad193.add ((x5_1).toNat * 6)) = some (.int .i64 ((rd_T64 l1 x5_1).f0)) ∧ w'.cell? ⟨(ad193.add ((x5_1).toNat * 6)).block, (ad193.add ((x5_1).toNat * 6)).off + 1, none⟩ = some (.int .i64 ((rd_T64 l1 x5_1).f1)) ∧ w'.cell? ⟨(ad193.add ((x5_1).toNat * 6)).block, (ad193.add ((x5_1).toNat * 6)).off + 2, none⟩ = some (.int .i64 ((rd_T64 l1 x5_1).f2)) ∧ w'.cell? ⟨(ad193.add ((x5_1).toNat * 6)).block, (ad193.add ((x5_1).toNat * 6)).off + 3, none⟩ = some (.slice A193_3 ((rd_T64 l1 x5_1).f3).length c193_3) ∧ w'.cell? ⟨(ad193.add ((x5_1).toNat * 6)).block, (ad193.add ((x5_1).toNat * 6)).off + 4, none⟩ = some (.slice A193_4 ((rd_T64 l1 x5_1).f4).length c193_4) ∧ w'.cell? ⟨(ad193.add ((x5_1).toNat * 6)).block, (ad193.add ((x5_1).toNat * 6)).off + 5, none⟩ = some (.slice A193_5 ((rd_T64 l1 x5_1).f5).length c193_5)) laws_eqInodeS.tab6 laws_eqInodeS.bits6 oH (fun hHeld HT_ HW_ => ?_)
        generalize wr.drew = w11 at HB HR192_3 HR192_4 HR192_5 HR193_3 HR193_4 HR193_5 hx192_0 hx192_1 hx192_2 hx192_3 hx192_4 hx192_5 hx193_0 hx193_1 hx193_2 hx193_3 hx193_4 hx193_5 hHeld ⊢
        refine pu_ 0 17 HT_ ?_
        refine pu_ 1 18 HT_ ?_
        refine pu_ 2 19 HT_ ?_
        refine pu_ 4 21 HT_ ?_
        refine pu_ 5 22 HT_ ?_
        refine pu_ 6 23 HT_ ?_
        refine ta_ 3 20 HT_ HW_ hHeld ?_
        refine ta_ 7 24 HT_ HW_ hHeld ?_
        refine on_ 8 25 HT_ (fun K hK => ?_)
        refine gr_ 25 Tryd.func49 (laws_eqInode.calls k1 ((rd_T64 l0 x5_1).f0) ((rd_T64 l0 x5_1).f1) ((rd_T64 l0 x5_1).f2) _ _ ((rd_T64 l0 x5_1).f3) _ _ ((rd_T64 l0 x5_1).f4) _ _ ((rd_T64 l0 x5_1).f5) ((rd_T64 l1 x5_1).f0) ((rd_T64 l1 x5_1).f1) ((rd_T64 l1 x5_1).f2) _ _ ((rd_T64 l1 x5_1).f3) _ _ ((rd_T64 l1 x5_1).f4) _ _ ((rd_T64 l1 x5_1).f5) false _ (kC HR192_3) HC192_3.out (kC HR192_4) HC192_4.out (kC HR192_5) HC192_5.out (kC HR193_3) HC193_3.out (kC HR193_4) HC193_4.out (kC HR193_5) HC193_5.out A7.out) ?_
        rintro e w12 ⟨rfl, hb⟩
        refine ⟨_, rfl, ?_⟩
        replace HB := Aside0.mk (below_step oB hb)
        refine hk_ hK 25 oH (fun hHeld => ?_)
        clear hK K
        refine pu_ 9 26 HT_ ?_
        refine dn_ HT_ ?_
        try go_wp2
        go_ret
        exact ⟨oE, oB⟩
      ·cases H
     ·cases H
    ·obtain rfl := Option.some.inj H
     go_wp2
     go_ret
     exact ⟨oE, oB⟩
 ·rw [if_neg c3] at H
  have c3b0 : ((l0.length : Int) == (l1.length : Int)) = false := beq_eq_false_iff_ne.mpr c3
  have c3b1 : ((l0.length : Int) != (l1.length : Int)) = true := bne_iff_ne.mpr c3
  have c3b2 : (l0.length == l1.length) = false := by first | simpa using c3 | (simp at c3 ⊢; omega)
  obtain rfl := Option.some.inj H
  go_enter Tryd.func69, Tryd.ntmps69
  go_wp2
  go_ret
  exact ⟨oE, oB⟩

/-! ### laws_eqTab: function 36 -/
def laws_eqTab.f (k : Nat) (l0_0 : List (S64)) (a0_1 : Int) (l1_0 : List (S64)) (a1_1 : Int) : Option (Bool) := (laws_eqInodeS.f k l0_0 l1_0).bind fun t197 => (if t197 = true then (if a0_1 = a1_1 then (some true) else (some false)) else (some false))
set_option maxHeartbeats 8000000 in
set_option maxRecDepth 100000 in
theorem laws_eqTab.calls (k : Nat) (A0_0 : Option Addr) (c0_0 : Nat) (l0_0 : List (S64)) (a0_1 : Int) (A1_0 : Option Addr) (c1_0 : Nat) (l1_0 : List (S64)) (a1_1 : Int) (r : Bool) (w : World) (hr0_0 : Kd.C k64 w A0_0 l0_0.length l0_0) (hc0_0 : l0_0.length ≤ c0_0) (hr1_0 : Kd.C k64 w A1_0 l1_0.length l1_0) (hc1_0 : l1_0.length ≤ c1_0) (h : laws_eqTab.f k l0_0 a0_1 l1_0 a1_1 = some r) :
  Calls Tryd.prog 36 #[.agg #[.slice A0_0 l0_0.length c0_0, .int .i64 a0_1], .agg #[.slice A1_0 l1_0.length c1_0, .int .i64 a1_1]] w fun e w' => e = .returned (.bool r) ∧ Below w.heap.size w w' := by
 have hu46 := Tryd.underlying46
 have HR0_0 := Aside0.mk hr0_0
 have HC0_0 := Aside0.mk hc0_0
 clear hr0_0 hc0_0
 have HR1_0 := Aside0.mk hr1_0
 have HC1_0 := Aside0.mk hc1_0
 clear hr1_0 hc1_0
 have HB := Aside0.mk (Below.refl w.heap.size w)
 unfold laws_eqTab.f at h
 have H := h
 clear h
 replace H := bA H
 obtain ⟨t197, A3, H⟩ := H
 try dsimp only at H
 replace H := itB H
 rcases H with ⟨rfl, H⟩ | ⟨rfl, H⟩
 ·by_cases c5 : a0_1 = a1_1
  ·rw [if_pos c5] at H
   have c5b0 : (a0_1 == a1_1) = true := beq_iff_eq.mpr c5
   have c5b1 : (a0_1 != a1_1) = false := bne_eq_false_iff_eq.mpr c5
   clear c5
   obtain rfl := Option.some.inj H
   go_enter Tryd.func36, Tryd.ntmps36
   go_wp2_with (first | ((with_reducible refine gate_dst (N := 2) rfl ?_); refine bx_ 2 #[.slice A0_0 l0_0.length c0_0, .int .i64 a0_1] 46 ?_; intro gb195 hg w6 hbox hb; have BK195 := Aside0.mk (hbox); have GW195 := gs_ hg; have GE195 := gs_ hg; replace HB := Aside0.mk (below_step oB hb); clear hb hbox hg) | ((with_reducible refine gate_dst (N := 3) rfl ?_); refine bx_ 3 #[.slice A1_0 l1_0.length c1_0, .int .i64 a1_1] 46 ?_; intro gb196 hg w7 hbox hb; have BK196 := Aside0.mk (hbox); have GW196 := gs_ hg; have GE196 := gs_ hg; have NB195_196 := nl_ hg BK195; have NB196_195 := nr_ hg BK195; replace BK195 := kb_ BK195 hb; replace HB := Aside0.mk (below_step oB hb); clear hb hbox hg; have hnb8 := NB195_196.out; have hnc8 := NB196_195.out; obtain ⟨⟨_, _⟩, _, _⟩ := z2 BK195; obtain ⟨⟨_, _⟩, _, _⟩ := z2 BK196) | ((with_reducible refine gate_callee (f := 69) rfl ?_); refine gl_ 9 Tryd.func69 (laws_eqInodeS.calls k _ _ l0_0 _ _ l1_0 true _ (kC HR0_0) HC0_0.out (kC HR1_0) HC1_0.out A3.out) ?_; rintro e w11 ⟨rfl, hb⟩; refine ⟨_, rfl, ?_⟩; replace BK195 := kb_ BK195 hb; replace BK196 := kb_ BK196 hb; replace HB := Aside0.mk (below_step oB hb); obtain ⟨⟨_, _⟩, _, _⟩ := z2 BK195; obtain ⟨⟨_, _⟩, _, _⟩ := z2 BK196))
   go_ret
   exact ⟨oE, oB⟩
  ·rw [if_neg c5] at H
   have c5b0 : (a0_1 == a1_1) = false := beq_eq_false_iff_ne.mpr c5
   have c5b1 : (a0_1 != a1_1) = true := bne_iff_ne.mpr c5
   obtain rfl := Option.some.inj H
   go_enter Tryd.func36, Tryd.ntmps36
   go_wp2_with (first | ((with_reducible refine gate_dst (N := 2) rfl ?_); refine bx_ 2 #[.slice A0_0 l0_0.length c0_0, .int .i64 a0_1] 46 ?_; intro gb195 hg w14 hbox hb; have BK195 := Aside0.mk (hbox); have GW195 := gs_ hg; have GE195 := gs_ hg; replace HB := Aside0.mk (below_step oB hb); clear hb hbox hg) | ((with_reducible refine gate_dst (N := 3) rfl ?_); refine bx_ 3 #[.slice A1_0 l1_0.length c1_0, .int .i64 a1_1] 46 ?_; intro gb196 hg w15 hbox hb; have BK196 := Aside0.mk (hbox); have GW196 := gs_ hg; have GE196 := gs_ hg; have NB195_196 := nl_ hg BK195; have NB196_195 := nr_ hg BK195; replace BK195 := kb_ BK195 hb; replace HB := Aside0.mk (below_step oB hb); clear hb hbox hg; have hnb16 := NB195_196.out; have hnc16 := NB196_195.out; obtain ⟨⟨_, _⟩, _, _⟩ := z2 BK195; obtain ⟨⟨_, _⟩, _, _⟩ := z2 BK196) | ((with_reducible refine gate_callee (f := 69) rfl ?_); refine gl_ 9 Tryd.func69 (laws_eqInodeS.calls k _ _ l0_0 _ _ l1_0 true _ (kC HR0_0) HC0_0.out (kC HR1_0) HC1_0.out A3.out) ?_; rintro e w19 ⟨rfl, hb⟩; refine ⟨_, rfl, ?_⟩; replace BK195 := kb_ BK195 hb; replace BK196 := kb_ BK196 hb; replace HB := Aside0.mk (below_step oB hb); obtain ⟨⟨_, _⟩, _, _⟩ := z2 BK195; obtain ⟨⟨_, _⟩, _, _⟩ := z2 BK196))
   go_ret
   exact ⟨oE, oB⟩
 ·obtain rfl := Option.some.inj H
  go_enter Tryd.func36, Tryd.ntmps36
  go_wp2_with (first | ((with_reducible refine gate_dst (N := 2) rfl ?_); refine bx_ 2 #[.slice A0_0 l0_0.length c0_0, .int .i64 a0_1] 46 ?_; intro gb195 hg w22 hbox hb; have BK195 := Aside0.mk (hbox); have GW195 := gs_ hg; have GE195 := gs_ hg; replace HB := Aside0.mk (below_step oB hb); clear hb hbox hg) | ((with_reducible refine gate_dst (N := 3) rfl ?_); refine bx_ 3 #[.slice A1_0 l1_0.length c1_0, .int .i64 a1_1] 46 ?_; intro gb196 hg w23 hbox hb; have BK196 := Aside0.mk (hbox); have GW196 := gs_ hg; have GE196 := gs_ hg; have NB195_196 := nl_ hg BK195; have NB196_195 := nr_ hg BK195; replace BK195 := kb_ BK195 hb; replace HB := Aside0.mk (below_step oB hb); clear hb hbox hg; have hnb24 := NB195_196.out; have hnc24 := NB196_195.out; obtain ⟨⟨_, _⟩, _, _⟩ := z2 BK195; obtain ⟨⟨_, _⟩, _, _⟩ := z2 BK196) | ((with_reducible refine gate_callee (f := 69) rfl ?_); refine gl_ 9 Tryd.func69 (laws_eqInodeS.calls k _ _ l0_0 _ _ l1_0 false _ (kC HR0_0) HC0_0.out (kC HR1_0) HC1_0.out A3.out) ?_; rintro e w27 ⟨rfl, hb⟩; refine ⟨_, rfl, ?_⟩; replace BK195 := kb_ BK195 hb; replace BK196 := kb_ BK196 hb; replace HB := Aside0.mk (below_step oB hb)))
  go_ret
  exact ⟨oE, oB⟩

/-! ### spec_l1In: function 79 -/
def spec_l1In.f (a0 : Int) (a1 : Int) (a2 : Int) : Option (Bool) := if a0 ≥ a1 then (some (decide (a0 ≤ a2))) else (some false)
set_option maxHeartbeats 8000000 in
set_option maxRecDepth 100000 in
theorem spec_l1In.calls (a0 : Int) (a1 : Int) (a2 : Int) (r : Bool) (w : World) (h : spec_l1In.f a0 a1 a2 = some r) :
  Calls Tryd.prog 79 #[.int .i64 a0, .int .i64 a1, .int .i64 a2] w fun e w' => e = .returned (.bool r) ∧ Drawn0 w w' := by
 unfold spec_l1In.f at h
 have H := h
 clear h
 replace H := itH H
 rcases H with ⟨c4b0, H⟩ | ⟨c4b0, H⟩
 ·obtain rfl := Option.some.inj H
  go_enter Tryd.func79, Tryd.ntmps79
  go_wp2
  go_ret
  exact ⟨oS, oD⟩
 ·obtain rfl := Option.some.inj H
  go_enter Tryd.func79, Tryd.ntmps79
  go_wp2
  go_ret
  exact ⟨oS, oD⟩

/-! ### spec_NameOk: function 53 -/
def spec_NameOk.l0 : Nat → ByteArray → Int → Option (Bool)
 | 0, _, _ => none
 | k + 1, x0, x3 => if x3 < (x0.size : Int) then (if 0 ≤ x3 then ((spec_l1In.f (wrap64 (bt x0 x3)) 97 122).bind fun t199 => (if t199 = true then (spec_NameOk.l0 k x0 (wrap64 (x3 + 1))) else ((spec_l1In.f (wrap64 (bt x0 x3)) 48 57).bind fun t200 => (if t200 = true then (spec_NameOk.l0 k x0 (wrap64 (x3 + 1))) else (if (wrap64 (bt x0 x3)) = 95 then (spec_NameOk.l0 k x0 (wrap64 (x3 + 1))) else (if (wrap64 (bt x0 x3)) = 45 then (spec_NameOk.l0 k x0 (wrap64 (x3 + 1))) else (if (wrap64 (bt x0 x3)) = 46 then (spec_NameOk.l0 k x0 (wrap64 (x3 + 1))) else (some false)))))))) else (none)) else ((spec_l1In.f (x0.size : Int) 1 14).bind fun t198 => (if t198 = true then (if x0.toList = ([46] : List UInt8) then (some false) else (some (x0.toList != ([46, 46] : List UInt8)))) else (some false)))
def spec_NameOk.f (k : Nat) (a0 : ByteArray) : Option (Bool) := spec_NameOk.l0 k a0 0
set_option maxHeartbeats 8000000 in
set_option maxRecDepth 100000 in
theorem spec_NameOk.calls (k : Nat) (a0 : ByteArray) (r : Bool) (w : World) (h : spec_NameOk.f k a0 = some r) :
  Calls Tryd.prog 53 #[.string a0] w fun e w' => e = .returned (.bool r) ∧ Drawn0 w w' := by
 unfold spec_NameOk.f at h
 have H := h
 clear h
 have H' := Aside0.mk H
 clear H
 go_enter Tryd.func53, Tryd.ntmps53
 go_wp2
 go_loopg [3] k (fun kq v3 w' => ∃ (x3_1 : Int), v3 = .int .i64 x3_1 ∧ Aside0 (spec_NameOk.l0 kq a0 x3_1 = some r) ∧ Aside0 (kq ≤ k) ∧ Drawn0 w w')
 case atStart => exact ⟨(0), oS, H', ⟨Nat.le_refl _⟩, oD⟩
 case round =>
  clear H'
  obtain ⟨x3_1, rfl, HA, HK1, ⟨m1, rfl⟩⟩ := hrel
  cases gk with
  | zero => exact absurd HA.out (by simp [spec_NameOk.l0])
  | succ k1 =>
   have H := HA.out
   clear HA
   simp only [spec_NameOk.l0] at H
   replace H := itD H
   rcases H with ⟨c2b0, H⟩ | ⟨c2b0, H⟩
   ·replace H := itD H
    rcases H with ⟨c3b0, H⟩ | ⟨c3b0, H⟩
    ·replace H := bA H
     obtain ⟨t199, A5, H⟩ := H
     try dsimp only at H
     replace H := itB H
     rcases H with ⟨rfl, H⟩ | ⟨rfl, H⟩
     ·have H' := Aside0.mk H
      clear H
      have p4 : (0 ≤ (x3_1 : Int)) = True := oT
      have q4 : (x3_1 < (a0.size : Int)) = True := oT
      have hx4 := bt_at a0 x3_1
      go_wp2_with (first | ((with_reducible refine gate_callee (f := 79) rfl ?_); refine gl_ 16 Tryd.func79 (spec_l1In.calls (wrap64 (bt a0 x3_1)) 97 122 true _ A5.out) ?_; rintro e w' ⟨rfl, ⟨nd, rfl⟩⟩; refine ⟨_, rfl, ?_⟩))
      go_roundg k1
      case measure => have := HK1.out; omega
      case rel => exact ⟨(wrap64 (x3_1 + 1)), oS, H', ⟨by have := HK1.out; omega⟩, oD⟩
     ·replace H := bA H
      obtain ⟨t200, A7, H⟩ := H
      try dsimp only at H
      replace H := itB H
      rcases H with ⟨rfl, H⟩ | ⟨rfl, H⟩
      ·have H' := Aside0.mk H
       clear H
       have p4 : (0 ≤ (x3_1 : Int)) = True := oT
       have q4 : (x3_1 < (a0.size : Int)) = True := oT
       have hx4 := bt_at a0 x3_1
       go_wp2_with (first | ((with_reducible refine gate_callee (f := 79) rfl ?_); refine gl_ 16 Tryd.func79 (spec_l1In.calls (wrap64 (bt a0 x3_1)) 97 122 false _ A5.out) ?_; rintro e w' ⟨rfl, ⟨nd, rfl⟩⟩; refine ⟨_, rfl, ?_⟩) | (go_at_call 79; (with_reducible refine (spec_l1In.calls (wrap64 (bt a0 x3_1)) 48 57 true _ A7.out).mono ?_); rintro e w' ⟨rfl, ⟨nd, rfl⟩⟩))
       go_roundg k1
       case measure => have := HK1.out; omega
       case rel => exact ⟨(wrap64 (x3_1 + 1)), oS, H', ⟨by have := HK1.out; omega⟩, oD⟩
      ·by_cases c9 : (wrap64 (bt a0 x3_1)) = 95
       ·rw [if_pos c9] at H
        have c9b0 : ((wrap64 (bt a0 x3_1)) == 95) = true := beq_iff_eq.mpr c9
        have c9b1 : ((wrap64 (bt a0 x3_1)) != 95) = false := bne_eq_false_iff_eq.mpr c9
        clear c9
        have H' := Aside0.mk H
        clear H
        have p4 : (0 ≤ (x3_1 : Int)) = True := oT
        have q4 : (x3_1 < (a0.size : Int)) = True := oT
        have hx4 := bt_at a0 x3_1
        go_wp2_with (first | ((with_reducible refine gate_callee (f := 79) rfl ?_); refine gl_ 16 Tryd.func79 (spec_l1In.calls (wrap64 (bt a0 x3_1)) 97 122 false _ A5.out) ?_; rintro e w' ⟨rfl, ⟨nd, rfl⟩⟩; refine ⟨_, rfl, ?_⟩) | (go_at_call 79; (with_reducible refine (spec_l1In.calls (wrap64 (bt a0 x3_1)) 48 57 false _ A7.out).mono ?_); rintro e w' ⟨rfl, ⟨nd, rfl⟩⟩))
        go_roundg k1
        case measure => have := HK1.out; omega
        case rel => exact ⟨(wrap64 (x3_1 + 1)), oS, H', ⟨by have := HK1.out; omega⟩, oD⟩
       ·rw [if_neg c9] at H
        have c9b0 : ((wrap64 (bt a0 x3_1)) == 95) = false := beq_eq_false_iff_ne.mpr c9
        have c9b1 : ((wrap64 (bt a0 x3_1)) != 95) = true := bne_iff_ne.mpr c9
        by_cases c10 : (wrap64 (bt a0 x3_1)) = 45
        ·rw [if_pos c10] at H
         have c10b0 : ((wrap64 (bt a0 x3_1)) == 45) = true := beq_iff_eq.mpr c10
         have c10b1 : ((wrap64 (bt a0 x3_1)) != 45) = false := bne_eq_false_iff_eq.mpr c10
         clear c10
         have H' := Aside0.mk H
         clear H
         have p4 : (0 ≤ (x3_1 : Int)) = True := oT
         have q4 : (x3_1 < (a0.size : Int)) = True := oT
         have hx4 := bt_at a0 x3_1
         go_wp2_with (first | ((with_reducible refine gate_callee (f := 79) rfl ?_); refine gl_ 16 Tryd.func79 (spec_l1In.calls (wrap64 (bt a0 x3_1)) 97 122 false _ A5.out) ?_; rintro e w' ⟨rfl, ⟨nd, rfl⟩⟩; refine ⟨_, rfl, ?_⟩) | (go_at_call 79; (with_reducible refine (spec_l1In.calls (wrap64 (bt a0 x3_1)) 48 57 false _ A7.out).mono ?_); rintro e w' ⟨rfl, ⟨nd, rfl⟩⟩))
         go_roundg k1
         case measure => have := HK1.out; omega
         case rel => exact ⟨(wrap64 (x3_1 + 1)), oS, H', ⟨by have := HK1.out; omega⟩, oD⟩
        ·rw [if_neg c10] at H
         have c10b0 : ((wrap64 (bt a0 x3_1)) == 45) = false := beq_eq_false_iff_ne.mpr c10
         have c10b1 : ((wrap64 (bt a0 x3_1)) != 45) = true := bne_iff_ne.mpr c10
         by_cases c11 : (wrap64 (bt a0 x3_1)) = 46
         ·rw [if_pos c11] at H
          have c11b0 : ((wrap64 (bt a0 x3_1)) == 46) = true := beq_iff_eq.mpr c11
          have c11b1 : ((wrap64 (bt a0 x3_1)) != 46) = false := bne_eq_false_iff_eq.mpr c11
          clear c11
          have H' := Aside0.mk H
          clear H
          have p4 : (0 ≤ (x3_1 : Int)) = True := oT
          have q4 : (x3_1 < (a0.size : Int)) = True := oT
          have hx4 := bt_at a0 x3_1
          go_wp2_with (first | ((with_reducible refine gate_callee (f := 79) rfl ?_); refine gl_ 16 Tryd.func79 (spec_l1In.calls (wrap64 (bt a0 x3_1)) 97 122 false _ A5.out) ?_; rintro e w' ⟨rfl, ⟨nd, rfl⟩⟩; refine ⟨_, rfl, ?_⟩) | (go_at_call 79; (with_reducible refine (spec_l1In.calls (wrap64 (bt a0 x3_1)) 48 57 false _ A7.out).mono ?_); rintro e w' ⟨rfl, ⟨nd, rfl⟩⟩))
          go_roundg k1
          case measure => have := HK1.out; omega
          case rel => exact ⟨(wrap64 (x3_1 + 1)), oS, H', ⟨by have := HK1.out; omega⟩, oD⟩
         ·rw [if_neg c11] at H
          have c11b0 : ((wrap64 (bt a0 x3_1)) == 46) = false := beq_eq_false_iff_ne.mpr c11
          have c11b1 : ((wrap64 (bt a0 x3_1)) != 46) = true := bne_iff_ne.mpr c11
          obtain rfl := Option.some.inj H
          have p4 : (0 ≤ (x3_1 : Int)) = True := oT
          have q4 : (x3_1 < (a0.size : Int)) = True := oT
          have hx4 := bt_at a0 x3_1
          go_wp2_with (first | ((with_reducible refine gate_callee (f := 79) rfl ?_); refine gl_ 16 Tryd.func79 (spec_l1In.calls (wrap64 (bt a0 x3_1)) 97 122 false _ A5.out) ?_; rintro e w' ⟨rfl, ⟨nd, rfl⟩⟩; refine ⟨_, rfl, ?_⟩) | (go_at_call 79; (with_reducible refine (spec_l1In.calls (wrap64 (bt a0 x3_1)) 48 57 false _ A7.out).mono ?_); rintro e w' ⟨rfl, ⟨nd, rfl⟩⟩))
          go_ret
          exact ⟨oS, oD⟩
    ·cases H
   ·replace H := bA H
    obtain ⟨t198, A12, H⟩ := H
    try dsimp only at H
    replace H := itB H
    rcases H with ⟨rfl, H⟩ | ⟨rfl, H⟩
    ·by_cases c14 : a0.toList = ([46] : List UInt8)
     ·rw [if_pos c14] at H
      have c14b0 : (a0.toList == ([46] : List UInt8)) = true := beq_iff_eq.mpr c14
      have c14b1 : (a0.toList != ([46] : List UInt8)) = false := bne_eq_false_iff_eq.mpr c14
      clear c14
      obtain rfl := Option.some.inj H
      go_wp2_with (first | ((with_reducible refine gate_callee (f := 79) rfl ?_); refine gl_ 37 Tryd.func79 (spec_l1In.calls (a0.size : Int) 1 14 true _ A12.out) ?_; rintro e w' ⟨rfl, ⟨nd, rfl⟩⟩; refine ⟨_, rfl, ?_⟩))
      go_ret
      exact ⟨oS, oD⟩
     ·rw [if_neg c14] at H
      have c14b0 : (a0.toList == ([46] : List UInt8)) = false := beq_eq_false_iff_ne.mpr c14
      have c14b1 : (a0.toList != ([46] : List UInt8)) = true := bne_iff_ne.mpr c14
      obtain rfl := Option.some.inj H
      go_wp2_with (first | ((with_reducible refine gate_callee (f := 79) rfl ?_); refine gl_ 37 Tryd.func79 (spec_l1In.calls (a0.size : Int) 1 14 true _ A12.out) ?_; rintro e w' ⟨rfl, ⟨nd, rfl⟩⟩; refine ⟨_, rfl, ?_⟩))
      go_ret
      exact ⟨oS, oD⟩
    ·obtain rfl := Option.some.inj H
     go_wp2_with (first | ((with_reducible refine gate_callee (f := 79) rfl ?_); refine gl_ 37 Tryd.func79 (spec_l1In.calls (a0.size : Int) 1 14 false _ A12.out) ?_; rintro e w' ⟨rfl, ⟨nd, rfl⟩⟩; refine ⟨_, rfl, ?_⟩))
     go_ret
     exact ⟨oS, oD⟩

/-! ### spec_SplitPath: function 16 -/
mutual
def spec_SplitPath.l0 : Nat → ByteArray → List ByteArray → Int → Int → Option (List ByteArray × Bool)
 | 0, _, _, _, _ => none
 | k + 1, x0, x4, x5, x6 => if x6 ≤ (x0.size : Int) then (if x6 < (x0.size : Int) then (if 0 ≤ x6 then (spec_SplitPath.j1 k x0 x4 x5 x6 ((bt x0 x6) != 47)) else (none)) else (spec_SplitPath.j1 k x0 x4 x5 x6 false)) else (if (x0.size : Int) = 0 then (some ((([] : List ByteArray)), false)) else (if 0 < (x0.size : Int) then (if (bt x0 0) = 47 then (some (x4, true)) else (some ((([] : List ByteArray)), false))) else (none)))
def spec_SplitPath.j1 : Nat → ByteArray → List ByteArray → Int → Int → Bool → Option (List ByteArray × Bool)
 | 0, _, _, _, _, _ => none
 | k + 1, x0, x4, x5, x6, x27 => if x27 = true then (spec_SplitPath.l0 k x0 x4 x5 (wrap64 (x6 + 1))) else (if x6 > 0 then (if 0 ≤ x5 then (if x5 ≤ x6 then (if x6 ≤ (x0.size : Int) then ((spec_NameOk.f k (x0.extract (x5 : Int).toNat (x6 : Int).toNat)).bind fun t210 => (if t210 = true then (if (x4.length : Int) = 30 then (some ((([] : List ByteArray)), false)) else (if x4.length < 8796093022208 then (spec_SplitPath.l0 k x0 (x4 ++ [x0.extract (x5 : Int).toNat (x6 : Int).toNat]) (wrap64 (x6 + 1)) (wrap64 (x6 + 1))) else (none))) else (some ((([] : List ByteArray)), false)))) else (none)) else (none)) else (none)) else (spec_SplitPath.l0 k x0 x4 (wrap64 (x6 + 1)) (wrap64 (x6 + 1))))
end
def spec_SplitPath.f (k : Nat) (a0 : ByteArray) : Option (List ByteArray × Bool) := (some (([] : List ByteArray) : List ByteArray)).bind fun y201 => (if a0.toList = ([47] : List UInt8) then (some (y201, true)) else (spec_SplitPath.l0 k a0 y201 0 0))
set_option maxHeartbeats 8000000 in
set_option maxRecDepth 100000 in
theorem spec_SplitPath.calls (k : Nat) (a0 : ByteArray) (r1 : List ByteArray) (r2 : Bool) (w : World) (h : spec_SplitPath.f k a0 = some (r1, r2)) :
  Calls Tryd.prog 16 #[.string a0] w fun e w' => ∃ v0_ : Value, e = .returned (.tuple #[v0_, .bool r2]) ∧ Kd.R Kd.string 9 w' w.heap.size (fun _ => True) v0_ r1 ∧ Below w.heap.size w w' := by
 have HB := Aside0.mk (Below.refl w.heap.size w)
 unfold spec_SplitPath.f at h
 have H := h
 clear h
 obtain ⟨y201, hy201⟩ : ∃ y_ : List ByteArray, y_ = (([] : List ByteArray)) := ⟨_, rfl⟩
 replace H : (if a0.toList = ([47] : List UInt8) then (some (y201, true)) else (spec_SplitPath.l0 k a0 y201 0 0)) = some (r1, r2) := by first | (rw [hy201]; with_reducible exact H) | (have H2_ := (Option.bind_some _ _).symm.trans H; rw [hy201]; with_reducible exact H2_) | (have H2_ := (Option.bind_some _ _).symm.trans H; with_reducible exact H2_) | with_reducible exact H | (rw [hy201]; exact H) | exact H
 have Ny201 := Aside0.mk hy201
 clear hy201
 by_cases c2 : a0.toList = ([47] : List UInt8)
 ·rw [if_pos c2] at H
  have c2b0 : (a0.toList == ([47] : List UInt8)) = true := beq_iff_eq.mpr c2
  have c2b1 : (a0.toList != ([47] : List UInt8)) = false := bne_eq_false_iff_eq.mpr c2
  clear c2
  simp only [Option.some.injEq, Prod.mk.injEq] at H
  obtain ⟨rfl, rfl⟩ := H
  go_enter Tryd.func16, Tryd.ntmps16
  go_wp2_with (first | ((with_reducible refine gate_dst (N := 8) rfl ?_); (try (refine gate_guard (by rfl) ?_; dsimp only)); refine Kd.R_lit Kd.string _ 9 ?hg (N := 8) ?hd (xs := ([] : List ByteArray)) (inner := []) (ok := fun _ => True) (okp := fun _ => True) ?hr ?hp (fun _ hk => hk) trivial (Below.refl _ _) (Nat.le_refl _) (by simp) ?_; (case hd => rfl); (case hg => rfl); (case hr => first | (go_simp; done) | (go_simp; rfl)); (case hp => exact (Reps.none _ _)); intro v202 w3 ho4 hb hg_ hnew_; clear hg_ hnew_; (first | rw [← Ny201.out] at ho4 | (simp only [Int.reduceToNat] at ho4; rw [← Ny201.out] at ho4)); have HO203 := Aside0.mk (Kd.R_lower ho4 (below_size oB)); replace HB := Aside0.mk (below_step oB hb); clear hb ho4))
  go_ret2
  exact ⟨_, oE, oR HO203, oB⟩
 ·rw [if_neg c2] at H
  have c2b0 : (a0.toList == ([47] : List UInt8)) = false := beq_eq_false_iff_ne.mpr c2
  have c2b1 : (a0.toList != ([47] : List UInt8)) = true := bne_iff_ne.mpr c2
  have H' := Aside0.mk H
  clear H
  go_enter Tryd.func16, Tryd.ntmps16
  go_wp2_with (first | ((with_reducible refine gate_dst (N := 8) rfl ?_); (try (refine gate_guard (by rfl) ?_; dsimp only)); refine Kd.R_lit Kd.string _ 9 ?hg (N := 8) ?hd (xs := ([] : List ByteArray)) (inner := []) (ok := fun _ => True) (okp := fun _ => True) ?hr ?hp (fun _ hk => hk) trivial (Below.refl _ _) (Nat.le_refl _) (by simp) ?_; (case hd => rfl); (case hg => rfl); (case hr => first | (go_simp; done) | (go_simp; rfl)); (case hp => exact (Reps.none _ _)); intro v202 w5 ho6 hb hg_ hnew_; clear hg_ hnew_; (first | rw [← Ny201.out] at ho6 | (simp only [Int.reduceToNat] at ho6; rw [← Ny201.out] at ho6)); have HO203 := Aside0.mk (Kd.R_lower ho6 (below_size oB)); replace HB := Aside0.mk (below_step oB hb); clear hb ho6))
  go_loopg [4, 5, 6] k (fun kq v4 v5 v6 w' => ∃ (x4_1 : List ByteArray) (x5_1 : Int) (x6_1 : Int), v5 = .int .i64 x5_1 ∧ v6 = .int .i64 x6_1 ∧ Aside0 (spec_SplitPath.l0 kq a0 x4_1 x5_1 x6_1 = some (r1, r2)) ∧ Aside0 (kq ≤ k) ∧ Aside0 (Kd.R Kd.string 9 w' w.heap.size (fun _ => True) v4 x4_1) ∧ Aside0 (Below w.heap.size w w'))
  case atStart => exact ⟨(y201), (0), (0), oS, oS, H', ⟨Nat.le_refl _⟩, ⟨oR HO203⟩, ⟨oB⟩⟩
  case round =>
   clear H'
   try clear c2
   obtain ⟨x4_1, x5_1, x6_1, rfl, rfl, HA, HK1, HO_4, HB⟩ := hrel
   cases gk with
   | zero => exact absurd HA.out (by simp [spec_SplitPath.l0])
   | succ k1 =>
    have H := HA.out
    clear HA
    simp only [spec_SplitPath.l0] at H
    replace H := itD H
    rcases H with ⟨c7b0, H⟩ | ⟨c7b0, H⟩
    ·have HC8 := Aside0.mk H
     clear H
     go_upto_region 8 with (fail)
     go_cut [27] (fun v27 wc => ∃ (kq : Nat) (x27_7 : Bool), v27 = .bool x27_7 ∧ Aside0 (spec_SplitPath.j1 kq a0 x4_1 x5_1 x6_1 x27_7 = some (r1, r2)) ∧ Aside0 (kq ≤ k1) ∧ Aside0 (Kd.R Kd.string 9 wc w.heap.size (fun _ => True) u4 x4_1) ∧ Aside0 (Below w.heap.size w wc))
     case first =>
      have H := HC8.out
      clear HC8
      replace H := itD H
      rcases H with ⟨c9b0, H⟩ | ⟨c9b0, H⟩
      ·(first | rw [c9b0] | rw [c9b2] | (simp only [i64_w, i32_w]; rw [c9b0]) | skip)
       replace H := itD H
       rcases H with ⟨c10b0, H⟩ | ⟨c10b0, H⟩
       ·have H' := Aside0.mk H
        clear H
        have p11 : (0 ≤ (x6_1 : Int)) = True := oT
        have q11 : (x6_1 < (a0.size : Int)) = True := oT
        have hx11 := bt_at a0 x6_1
        go_wp2
        go_meet
        case rel => exact ⟨_, (((bt a0 x6_1) != 47)), oS, H', ⟨by have := HK1.out; first | omega | exact Nat.le_refl _⟩, ⟨oR HO_4⟩, ⟨oB⟩⟩
       ·cases H
      ·(first | rw [c9b0] | rw [c9b2] | (simp only [i64_w, i32_w]; rw [c9b0]) | skip)
       have H' := Aside0.mk H
       clear H
       go_wp2
       go_meet
       case rel => exact ⟨_, (false), oS, H', ⟨by have := HK1.out; first | omega | exact Nat.le_refl _⟩, ⟨oR HO_4⟩, ⟨oB⟩⟩
     case rest =>
      clear HC8
      try clear c2
      try clear c7b0
      obtain ⟨kq, x27_7, rfl, HA, HJ7, HO_4, HB⟩ := hcut
      cases kq with
      | zero => exact absurd HA.out (by simp [spec_SplitPath.j1])
      | succ kj7 =>
       have H := HA.out
       clear HA
       simp only [spec_SplitPath.j1] at H
       replace H := itB H
       rcases H with ⟨rfl, H⟩ | ⟨rfl, H⟩
       ·have H' := Aside0.mk H
        clear H
        go_wp2
        go_roundg kj7
        case measure => have := HK1.out; have := HJ7.out; omega
        case rel => exact ⟨(x4_1), (x5_1), (wrap64 (x6_1 + 1)), oS, oS, H', ⟨by have := HK1.out; have := HJ7.out; omega⟩, ⟨oR HO_4⟩, ⟨oB⟩⟩
       ·replace H := itG H
        rcases H with ⟨c13b0, H⟩ | ⟨c13b0, H⟩
        ·by_cases c14 : 0 ≤ x5_1
         ·rw [if_pos c14] at H
          have c14b0 := eq_true c14
          have c14b1 : decide (0 ≤ x5_1) = true := decide_eq_true c14
          clear c14
          by_cases c15 : x5_1 ≤ x6_1
          ·rw [if_pos c15] at H
           have c15b0 := eq_true c15
           have c15b1 : decide (x5_1 ≤ x6_1) = true := decide_eq_true c15
           clear c15
           by_cases c16 : x6_1 ≤ (a0.size : Int)
           ·rw [if_pos c16] at H
            have c16b0 := eq_true c16
            have c16b1 : decide (x6_1 ≤ (a0.size : Int)) = true := decide_eq_true c16
            clear c16
            replace H := bA H
            obtain ⟨t210, A17, H⟩ := H
            try dsimp only at H
            replace H := itB H
            rcases H with ⟨rfl, H⟩ | ⟨rfl, H⟩
            ·by_cases c19 : (x4_1.length : Int) = 30
             ·rw [if_pos c19] at H
              have c19b0 : ((x4_1.length : Int) == 30) = true := beq_iff_eq.mpr c19
              have c19b1 : ((x4_1.length : Int) != 30) = false := bne_eq_false_iff_eq.mpr c19
              clear c19
              obtain ⟨y211, hy211⟩ : ∃ y_ : List ByteArray, y_ = (([] : List ByteArray)) := ⟨_, rfl⟩
              replace H : (some (y211, false)) = some (r1, r2) := by first | (rw [hy211]; with_reducible exact H) | (have H2_ := (Option.bind_some _ _).symm.trans H; rw [hy211]; with_reducible exact H2_) | (have H2_ := (Option.bind_some _ _).symm.trans H; with_reducible exact H2_) | with_reducible exact H | (rw [hy211]; exact H) | exact H
              have Ny211 := Aside0.mk hy211
              clear hy211
              simp only [Option.some.injEq, Prod.mk.injEq] at H
              obtain ⟨rfl, rfl⟩ := H
              go_wp2_with (first | ((with_reducible refine gate_callee (f := 53) rfl ?_); refine gl_ 35 Tryd.func53 (spec_NameOk.calls kj7 (a0.extract (x5_1 : Int).toNat (x6_1 : Int).toNat) true _ A17.out) ?_; rintro e w' ⟨rfl, ⟨nd, rfl⟩⟩; refine ⟨_, rfl, ?_⟩; obtain ⟨Ao20, co20, eo20⟩ := Kd.R_slice HO_4.out; subst eo20) | ((with_reducible refine gate_dst (N := 42) rfl ?_); (try (refine gate_guard (by rfl) ?_; dsimp only)); refine Kd.R_lit Kd.string _ 9 ?hg (N := 42) ?hd (xs := ([] : List ByteArray)) (inner := []) (ok := fun _ => True) (okp := fun _ => True) ?hr ?hp (fun _ hk => hk) trivial (Below.refl _ _) (Nat.le_refl _) (by simp) ?_; (case hd => rfl); (case hg => rfl); (case hr => first | (go_simp; done) | (go_simp; rfl)); (case hp => exact (Reps.none _ _)); intro v212 w21 ho22 hb hg_ hnew_; clear hg_ hnew_; (first | rw [← Ny211.out] at ho22 | (simp only [Int.reduceToNat] at ho22; rw [← Ny211.out] at ho22)); have HO213 := Aside0.mk (Kd.R_lower (Kd.R_new' ho22 (kl_ HO_4)) (below_size oB)); replace HO_4 := ke_ HO_4 ho22 hb; replace HB := Aside0.mk (below_step oB hb); clear hb ho22))
              go_ret2
              exact ⟨_, oE, by (with_reducible repeat (first | apply Kd.R_alloc | apply Kd.R_drewN | apply Kd.R_drew)); exact Kd.R_mono HO213.out (fun _ hk => trivial), oB⟩
             ·rw [if_neg c19] at H
              have c19b0 : ((x4_1.length : Int) == 30) = false := beq_eq_false_iff_ne.mpr c19
              have c19b1 : ((x4_1.length : Int) != 30) = true := bne_iff_ne.mpr c19
              by_cases c23 : x4_1.length < 8796093022208
              ·rw [if_pos c23] at H
               have LMc23 := Aside0.mk c23
               clear c23
               obtain ⟨y214, hy214⟩ : ∃ y_ : List ByteArray, y_ = (x4_1 ++ [a0.extract (x5_1 : Int).toNat (x6_1 : Int).toNat]) := ⟨_, rfl⟩
               replace H : (spec_SplitPath.l0 kj7 a0 y214 (wrap64 (x6_1 + 1)) (wrap64 (x6_1 + 1))) = some (r1, r2) := by first | (rw [hy214]; with_reducible exact H) | (have H2_ := (Option.bind_some _ _).symm.trans H; rw [hy214]; with_reducible exact H2_) | (have H2_ := (Option.bind_some _ _).symm.trans H; with_reducible exact H2_) | with_reducible exact H | (rw [hy214]; exact H) | exact H
               have Ny214 := Aside0.mk hy214
               clear hy214
               have H' := Aside0.mk H
               clear H
               go_wp2_with (first | ((with_reducible refine gate_callee (f := 53) rfl ?_); refine gl_ 35 Tryd.func53 (spec_NameOk.calls kj7 (a0.extract (x5_1 : Int).toNat (x6_1 : Int).toNat) true _ A17.out) ?_; rintro e w' ⟨rfl, ⟨nd, rfl⟩⟩; refine ⟨_, rfl, ?_⟩; obtain ⟨Ao24, co24, eo24⟩ := Kd.R_slice HO_4.out; subst eo24) | ((with_reducible refine gate_builtin (b := .append) (xs := #[.tmp 43, .tmp 45]) rfl ?_); (try (refine gate_guard (by rfl) ?_; dsimp only)); at_builtin; refine Kd.R_append Kd.string (w0 := w) w.heap.size rfl (.tmp 43) (.tmp 45) 23 9 (.string ⟨#[]⟩) 16 rfl Tryd.underlying23 info9 rfl (by decide) (by omega) (.slice Ao24 x4_1.length co24) x4_1 (a0.extract (x5_1 : Int).toNat (x6_1 : Int).toNat) [.string (a0.extract (x5_1 : Int).toNat (x6_1 : Int).toNat)] (fun _ => True) (fun _ => False) rfl rfl ?aP (fun _ hk => hk.elim) ?aF ?aO ?aB ?aS ?aL ?_; (case aP => exact rfl); (case aB => exact oB); (case aF => exact (fun _ _ => trivial)); (case aO => exact (oR HO_4)); (case aS => exact (below_size oB)); (case aL => have := LMc23.out; omega); intro v215 w25 ho hb hg hat; rw [← Ny214.out] at ho; have HO216 := Aside0.mk (ho); replace HB := Aside0.mk (hb); clear HO_4; clear ho hb hg hat))
               go_roundg kj7
               case measure => have := HK1.out; have := HJ7.out; omega
               case rel => exact ⟨(y214), (wrap64 (x6_1 + 1)), (wrap64 (x6_1 + 1)), oS, oS, H', ⟨by have := HK1.out; have := HJ7.out; omega⟩, ⟨oR HO216⟩, ⟨oB⟩⟩
              ·rw [if_neg c23] at H
               exact absurd H (by simp)
            ·obtain ⟨y217, hy217⟩ : ∃ y_ : List ByteArray, y_ = (([] : List ByteArray)) := ⟨_, rfl⟩
             replace H : (some (y217, false)) = some (r1, r2) := by first | (rw [hy217]; with_reducible exact H) | (have H2_ := (Option.bind_some _ _).symm.trans H; rw [hy217]; with_reducible exact H2_) | (have H2_ := (Option.bind_some _ _).symm.trans H; with_reducible exact H2_) | with_reducible exact H | (rw [hy217]; exact H) | exact H
             have Ny217 := Aside0.mk hy217
             clear hy217
             simp only [Option.some.injEq, Prod.mk.injEq] at H
             obtain ⟨rfl, rfl⟩ := H
             go_wp2_with (first | ((with_reducible refine gate_callee (f := 53) rfl ?_); refine gl_ 35 Tryd.func53 (spec_NameOk.calls kj7 (a0.extract (x5_1 : Int).toNat (x6_1 : Int).toNat) false _ A17.out) ?_; rintro e w' ⟨rfl, ⟨nd, rfl⟩⟩; refine ⟨_, rfl, ?_⟩) | ((with_reducible refine gate_dst (N := 42) rfl ?_); (try (refine gate_guard (by rfl) ?_; dsimp only)); refine Kd.R_lit Kd.string _ 9 ?hg (N := 42) ?hd (xs := ([] : List ByteArray)) (inner := []) (ok := fun _ => True) (okp := fun _ => True) ?hr ?hp (fun _ hk => hk) trivial (Below.refl _ _) (Nat.le_refl _) (by simp) ?_; (case hd => rfl); (case hg => rfl); (case hr => first | (go_simp; done) | (go_simp; rfl)); (case hp => exact (Reps.none _ _)); intro v218 w26 ho27 hb hg_ hnew_; clear hg_ hnew_; (first | rw [← Ny217.out] at ho27 | (simp only [Int.reduceToNat] at ho27; rw [← Ny217.out] at ho27)); have HO219 := Aside0.mk (Kd.R_lower (Kd.R_new' ho27 (kl_ HO_4)) (below_size oB)); replace HO_4 := ke_ HO_4 ho27 hb; replace HB := Aside0.mk (below_step oB hb); clear hb ho27))
             go_ret2
             exact ⟨_, oE, by (with_reducible repeat (first | apply Kd.R_alloc | apply Kd.R_drewN | apply Kd.R_drew)); exact Kd.R_mono HO219.out (fun _ hk => trivial), oB⟩
           ·rw [if_neg c16] at H
            exact absurd H (by simp)
          ·rw [if_neg c15] at H
           exact absurd H (by simp)
         ·rw [if_neg c14] at H
          exact absurd H (by simp)
        ·have H' := Aside0.mk H
         clear H
         go_wp2
         go_roundg kj7
         case measure => have := HK1.out; have := HJ7.out; omega
         case rel => exact ⟨(x4_1), (wrap64 (x6_1 + 1)), (wrap64 (x6_1 + 1)), oS, oS, H', ⟨by have := HK1.out; have := HJ7.out; omega⟩, ⟨oR HO_4⟩, ⟨oB⟩⟩
    ·by_cases c28 : (a0.size : Int) = 0
     ·rw [if_pos c28] at H
      have c28b0 : ((a0.size : Int) == 0) = true := beq_iff_eq.mpr c28
      have c28b1 : ((a0.size : Int) != 0) = false := bne_eq_false_iff_eq.mpr c28
      clear c28
      obtain ⟨y204, hy204⟩ : ∃ y_ : List ByteArray, y_ = (([] : List ByteArray)) := ⟨_, rfl⟩
      replace H : (some (y204, false)) = some (r1, r2) := by first | (rw [hy204]; with_reducible exact H) | (have H2_ := (Option.bind_some _ _).symm.trans H; rw [hy204]; with_reducible exact H2_) | (have H2_ := (Option.bind_some _ _).symm.trans H; with_reducible exact H2_) | with_reducible exact H | (rw [hy204]; exact H) | exact H
      have Ny204 := Aside0.mk hy204
      clear hy204
      simp only [Option.some.injEq, Prod.mk.injEq] at H
      obtain ⟨rfl, rfl⟩ := H
      go_wp2_with (first | ((with_reducible refine gate_dst (N := 57) rfl ?_); (try (refine gate_guard (by rfl) ?_; dsimp only)); refine Kd.R_lit Kd.string _ 9 ?hg (N := 57) ?hd (xs := ([] : List ByteArray)) (inner := []) (ok := fun _ => True) (okp := fun _ => True) ?hr ?hp (fun _ hk => hk) trivial (Below.refl _ _) (Nat.le_refl _) (by simp) ?_; (case hd => rfl); (case hg => rfl); (case hr => first | (go_simp; done) | (go_simp; rfl)); (case hp => exact (Reps.none _ _)); intro v205 w29 ho30 hb hg_ hnew_; clear hg_ hnew_; (first | rw [← Ny204.out] at ho30 | (simp only [Int.reduceToNat] at ho30; rw [← Ny204.out] at ho30)); have HO206 := Aside0.mk (Kd.R_lower (Kd.R_new' ho30 (kl_ HO_4)) (below_size oB)); replace HO_4 := ke_ HO_4 ho30 hb; replace HB := Aside0.mk (below_step oB hb); clear hb ho30))
      go_ret2
      exact ⟨_, oE, by (with_reducible repeat (first | apply Kd.R_alloc | apply Kd.R_drewN | apply Kd.R_drew)); exact Kd.R_mono HO206.out (fun _ hk => trivial), oB⟩
     ·rw [if_neg c28] at H
      have c28b0 : ((a0.size : Int) == 0) = false := beq_eq_false_iff_ne.mpr c28
      have c28b1 : ((a0.size : Int) != 0) = true := bne_iff_ne.mpr c28
      by_cases c31 : 0 < (a0.size : Int)
      ·rw [if_pos c31] at H
       have c31b0 : decide (0 < (a0.size : Int)) = true := decide_eq_true c31
       have c31b1 : decide (0 < a0.size) = true := decide_eq_true (by omega)
       clear c31
       by_cases c33 : (bt a0 0) = 47
       ·rw [if_pos c33] at H
        have c33b0 : ((bt a0 0) == 47) = true := beq_iff_eq.mpr c33
        have c33b1 : ((bt a0 0) != 47) = false := bne_eq_false_iff_eq.mpr c33
        clear c33
        simp only [Option.some.injEq, Prod.mk.injEq] at H
        obtain ⟨rfl, rfl⟩ := H
        have p32 : 0 ≤ (0 : Int) := (by omega)
        have q32 : 0 < a0.size := (by have : (0 : Int) < (a0.size : Int) := oa; omega)
        have hx32 : ∀ h : 0 < a0.size, ((a0[0]'h).toNat : Int) = bt a0 0 := bt_at a0 0
        clear p32
        have qi32 : (0 < (a0.size : Int)) = True := eq_true oa
        replace q32 := eq_true q32
        go_wp2
        go_ret2
        exact ⟨_, oE, oR HO_4, oB⟩
       ·rw [if_neg c33] at H
        have c33b0 : ((bt a0 0) == 47) = false := beq_eq_false_iff_ne.mpr c33
        have c33b1 : ((bt a0 0) != 47) = true := bne_iff_ne.mpr c33
        obtain ⟨y207, hy207⟩ : ∃ y_ : List ByteArray, y_ = (([] : List ByteArray)) := ⟨_, rfl⟩
        replace H : (some (y207, false)) = some (r1, r2) := by first | (rw [hy207]; with_reducible exact H) | (have H2_ := (Option.bind_some _ _).symm.trans H; rw [hy207]; with_reducible exact H2_) | (have H2_ := (Option.bind_some _ _).symm.trans H; with_reducible exact H2_) | with_reducible exact H | (rw [hy207]; exact H) | exact H
        have Ny207 := Aside0.mk hy207
        clear hy207
        simp only [Option.some.injEq, Prod.mk.injEq] at H
        obtain ⟨rfl, rfl⟩ := H
        have p32 : 0 ≤ (0 : Int) := (by omega)
        have q32 : 0 < a0.size := (by have : (0 : Int) < (a0.size : Int) := oa; omega)
        have hx32 : ∀ h : 0 < a0.size, ((a0[0]'h).toNat : Int) = bt a0 0 := bt_at a0 0
        clear p32
        have qi32 : (0 < (a0.size : Int)) = True := eq_true oa
        replace q32 := eq_true q32
        go_wp2_with (first | ((with_reducible refine gate_dst (N := 57) rfl ?_); (try (refine gate_guard (by rfl) ?_; dsimp only)); refine Kd.R_lit Kd.string _ 9 ?hg (N := 57) ?hd (xs := ([] : List ByteArray)) (inner := []) (ok := fun _ => True) (okp := fun _ => True) ?hr ?hp (fun _ hk => hk) trivial (Below.refl _ _) (Nat.le_refl _) (by simp) ?_; (case hd => rfl); (case hg => rfl); (case hr => first | (go_simp; done) | (go_simp; rfl)); (case hp => exact (Reps.none _ _)); intro v208 w34 ho35 hb hg_ hnew_; clear hg_ hnew_; (first | rw [← Ny207.out] at ho35 | (simp only [Int.reduceToNat] at ho35; rw [← Ny207.out] at ho35)); have HO209 := Aside0.mk (Kd.R_lower (Kd.R_new' ho35 (kl_ HO_4)) (below_size oB)); replace HO_4 := ke_ HO_4 ho35 hb; replace HB := Aside0.mk (below_step oB hb); clear hb ho35))
        go_ret2
        exact ⟨_, oE, by (with_reducible repeat (first | apply Kd.R_alloc | apply Kd.R_drewN | apply Kd.R_drew)); exact Kd.R_mono HO209.out (fun _ hk => trivial), oB⟩
      ·rw [if_neg c31] at H
       exact absurd H (by simp)

/-! ### spec_l4At: function 89 -/
def spec_l4At.l0 : Nat → Int → Int → List (S64) → Int → Option (Int)
 | 0, _, _, _, _ => none
 | k + 1, x1, x5, x221000, x221001 => if x5 < (x221000.length : Int) then (if 0 ≤ x5 then (if ((rd_T64 x221000 x5).f0) = x1 then (some x5) else (spec_l4At.l0 k x1 (wrap64 (x5 + 1)) x221000 x221001)) else (none)) else (some (-1))
def spec_l4At.f (k : Nat) (l0_0 : List (S64)) (a0_1 : Int) (a1 : Int) : Option (Int) := spec_l4At.l0 k a1 0 l0_0 a0_1
set_option maxHeartbeats 8000000 in
set_option maxRecDepth 100000 in
theorem spec_l4At.calls (k : Nat) (A0_0 : Option Addr) (c0_0 : Nat) (l0_0 : List (S64)) (a0_1 : Int) (a1 : Int) (r : Int) (w : World) (hr0_0 : Kd.C k64 w A0_0 l0_0.length l0_0) (hc0_0 : l0_0.length ≤ c0_0) (h : spec_l4At.f k l0_0 a0_1 a1 = some r) :
  Calls Tryd.prog 89 #[.agg #[.slice A0_0 l0_0.length c0_0, .int .i64 a0_1], .int .i64 a1] w fun e w' => e = .returned (.int .i64 r) ∧ Below w.heap.size w w' := by
 have hu46 := Tryd.underlying46
 have HR0_0 := Aside0.mk hr0_0
 have HC0_0 := Aside0.mk hc0_0
 clear hr0_0 hc0_0
 have HB := Aside0.mk (Below.refl w.heap.size w)
 unfold spec_l4At.f at h
 have H := h
 clear h
 have H' := Aside0.mk H
 clear H
 go_enter Tryd.func89, Tryd.ntmps89
 go_wp2_with (first | ((with_reducible refine gate_dst (N := 2) rfl ?_); refine bx_ 2 #[.slice A0_0 l0_0.length c0_0, .int .i64 a0_1] 46 ?_; intro gb220 hg w3 hbox hb; have BK220 := Aside0.mk (hbox); have GW220 := gs_ hg; have GE220 := gs_ hg; replace HB := Aside0.mk (below_step oB hb); clear hb hbox hg))
 go_loopg [5] k (fun kq v5 w' => ∃ (x5_1 : Int), v5 = .int .i64 x5_1 ∧ Aside0 (spec_l4At.l0 kq a1 x5_1 l0_0 a0_1 = some r) ∧ Aside0 (kq ≤ k) ∧ Aside0 (w'.heap[gb220]? = some (.cells #[(.slice A0_0 l0_0.length c0_0), .int .i64 a0_1] 46 (0, 0))) ∧ Aside0 (Below w.heap.size w w'))
 case atStart => exact ⟨(0), oS, H', ⟨Nat.le_refl _⟩, ⟨oF BK220⟩, ⟨oB⟩⟩
 case round =>
  clear H'
  obtain ⟨x5_1, rfl, HA, HK1, BK220, HB⟩ := hrel
  cases gk with
  | zero => exact absurd HA.out (by simp [spec_l4At.l0])
  | succ k1 =>
   have H := HA.out
   clear HA
   simp only [spec_l4At.l0] at H
   replace H := itD H
   rcases H with ⟨c4b0, H⟩ | ⟨c4b0, H⟩
   ·replace H := itD H
    rcases H with ⟨c5b0, H⟩ | ⟨c5b0, H⟩
    ·by_cases c6 : ((rd_T64 l0_0 x5_1).f0) = a1
     ·rw [if_pos c6] at H
      have c6b0 : (((rd_T64 l0_0 x5_1).f0) == a1) = true := beq_iff_eq.mpr c6
      have c6b1 : (((rd_T64 l0_0 x5_1).f0) != a1) = false := bne_eq_false_iff_eq.mpr c6
      clear c6
      obtain rfl := Option.some.inj H
      obtain ⟨⟨_, _⟩, _, _⟩ := z2 BK220
      have p221 : (0 ≤ (x5_1 : Int)) = True := oT
      have q221 : (x5_1 < (l0_0.length : Int)) = True := oT
      obtain ⟨ad221, A221_3, c221_3, A221_4, c221_4, A221_5, c221_5, e221, hx221_0, hx221_1, hx221_2, hx221_3, hx221_4, hx221_5, hl221_3, hi221_3, hl221_4, hi221_4, hl221_5, hi221_5⟩ := at_T64 HR0_0.out x5_1 oa oa
      cases e221
      replace hx221_0 := cB HB hx221_0
      replace hx221_1 := cB HB hx221_1
      replace hx221_2 := cB HB hx221_2
      replace hx221_3 := cB HB hx221_3
      replace hx221_4 := cB HB hx221_4
      replace hx221_5 := cB HB hx221_5
      have HR221_3 := Aside0.mk hi221_3
      have HC221_3 := Aside0.mk hl221_3
      clear hi221_3 hl221_3
      have HR221_4 := Aside0.mk hi221_4
      have HC221_4 := Aside0.mk hl221_4
      clear hi221_4 hl221_4
      have HR221_5 := Aside0.mk hi221_5
      have HC221_5 := Aside0.mk hl221_5
      clear hi221_5 hl221_5
      go_wp2
      go_ret
      exact ⟨oE, oB⟩
     ·rw [if_neg c6] at H
      have c6b0 : (((rd_T64 l0_0 x5_1).f0) == a1) = false := beq_eq_false_iff_ne.mpr c6
      have c6b1 : (((rd_T64 l0_0 x5_1).f0) != a1) = true := bne_iff_ne.mpr c6
      have H' := Aside0.mk H
      clear H
      obtain ⟨⟨_, _⟩, _, _⟩ := z2 BK220
      have p221 : (0 ≤ (x5_1 : Int)) = True := oT
      have q221 : (x5_1 < (l0_0.length : Int)) = True := oT
      obtain ⟨ad221, A221_3, c221_3, A221_4, c221_4, A221_5, c221_5, e221, hx221_0, hx221_1, hx221_2, hx221_3, hx221_4, hx221_5, hl221_3, hi221_3, hl221_4, hi221_4, hl221_5, hi221_5⟩ := at_T64 HR0_0.out x5_1 oa oa
      cases e221
      replace hx221_0 := cB HB hx221_0
      replace hx221_1 := cB HB hx221_1
      replace hx221_2 := cB HB hx221_2
      replace hx221_3 := cB HB hx221_3
      replace hx221_4 := cB HB hx221_4
      replace hx221_5 := cB HB hx221_5
      have HR221_3 := Aside0.mk hi221_3
      have HC221_3 := Aside0.mk hl221_3
      clear hi221_3 hl221_3
      have HR221_4 := Aside0.mk hi221_4
      have HC221_4 := Aside0.mk hl221_4
      clear hi221_4 hl221_4
      have HR221_5 := Aside0.mk hi221_5
      have HC221_5 := Aside0.mk hl221_5
      clear hi221_5 hl221_5
      go_wp2
      go_roundg k1
      case measure => have := HK1.out; omega
      case rel => exact ⟨(wrap64 (x5_1 + 1)), oS, H', ⟨by have := HK1.out; omega⟩, ⟨oF BK220⟩, ⟨oB⟩⟩
    ·cases H
   ·obtain rfl := Option.some.inj H
    obtain ⟨⟨_, _⟩, _, _⟩ := z2 BK220
    go_wp2
    go_ret
    exact ⟨oE, oB⟩

/-! ### spec_EntOf: function 90 -/
def spec_EntOf.l0 : Nat → ByteArray → Int → Int → Int → Int → List Int → List (S91) → List (S87) → Option (Int)
 | 0, _, _, _, _, _, _, _, _ => none
 | k + 1, x1, x5, x223000, x223001, x223002, x223003, x223004, x223005 => if x5 < (x223004.length : Int) then (if 0 ≤ x5 then (if ((rd_T91 x223004 x5).f0).toList = x1.toList then (some ((rd_T91 x223004 x5).f1)) else (spec_EntOf.l0 k x1 (wrap64 (x5 + 1)) x223000 x223001 x223002 x223003 x223004 x223005)) else (none)) else (some 0)
def spec_EntOf.f (k : Nat) (a0_0 : Int) (a0_1 : Int) (a0_2 : Int) (l0_3 : List Int) (l0_4 : List (S91)) (l0_5 : List (S87)) (a1 : ByteArray) : Option (Int) := spec_EntOf.l0 k a1 0 a0_0 a0_1 a0_2 l0_3 l0_4 l0_5
set_option maxHeartbeats 8000000 in
set_option maxRecDepth 100000 in
theorem spec_EntOf.calls (k : Nat) (a0_0 : Int) (a0_1 : Int) (a0_2 : Int) (A0_3 : Option Addr) (c0_3 : Nat) (l0_3 : List Int) (A0_4 : Option Addr) (c0_4 : Nat) (l0_4 : List (S91)) (A0_5 : Option Addr) (c0_5 : Nat) (l0_5 : List (S87)) (a1 : ByteArray) (r : Int) (w : World) (hr0_3 : Kd.C (Kd.int .u8) w A0_3 l0_3.length l0_3) (hc0_3 : l0_3.length ≤ c0_3) (hr0_4 : Kd.C k91 w A0_4 l0_4.length l0_4) (hc0_4 : l0_4.length ≤ c0_4) (hr0_5 : Kd.C k87 w A0_5 l0_5.length l0_5) (hc0_5 : l0_5.length ≤ c0_5) (h : spec_EntOf.f k a0_0 a0_1 a0_2 l0_3 l0_4 l0_5 a1 = some r) :
  Calls Tryd.prog 90 #[.agg #[.int .i64 a0_0, .int .i64 a0_1, .int .i64 a0_2, .slice A0_3 l0_3.length c0_3, .slice A0_4 l0_4.length c0_4, .slice A0_5 l0_5.length c0_5], .string a1] w fun e w' => e = .returned (.int .i64 r) ∧ Below w.heap.size w w' := by
 have hu64 := Tryd.underlying64
 have HR0_3 := Aside0.mk hr0_3
 have HC0_3 := Aside0.mk hc0_3
 clear hr0_3 hc0_3
 have HR0_4 := Aside0.mk hr0_4
 have HC0_4 := Aside0.mk hc0_4
 clear hr0_4 hc0_4
 have HR0_5 := Aside0.mk hr0_5
 have HC0_5 := Aside0.mk hc0_5
 clear hr0_5 hc0_5
 have HB := Aside0.mk (Below.refl w.heap.size w)
 unfold spec_EntOf.f at h
 have H := h
 clear h
 have H' := Aside0.mk H
 clear H
 go_enter Tryd.func90, Tryd.ntmps90
 go_wp2_with (first | ((with_reducible refine gate_dst (N := 2) rfl ?_); refine bx_ 2 #[.int .i64 a0_0, .int .i64 a0_1, .int .i64 a0_2, .slice A0_3 l0_3.length c0_3, .slice A0_4 l0_4.length c0_4, .slice A0_5 l0_5.length c0_5] 64 ?_; intro gb222 hg w3 hbox hb; have BK222 := Aside0.mk (hbox); have GW222 := gs_ hg; have GE222 := gs_ hg; replace HB := Aside0.mk (below_step oB hb); clear hb hbox hg))
 go_loopg [5] k (fun kq v5 w' => ∃ (x5_1 : Int), v5 = .int .i64 x5_1 ∧ Aside0 (spec_EntOf.l0 kq a1 x5_1 a0_0 a0_1 a0_2 l0_3 l0_4 l0_5 = some r) ∧ Aside0 (kq ≤ k) ∧ Aside0 (w'.heap[gb222]? = some (.cells #[.int .i64 a0_0, .int .i64 a0_1, .int .i64 a0_2, (.slice A0_3 l0_3.length c0_3), (.slice A0_4 l0_4.length c0_4), (.slice A0_5 l0_5.length c0_5)] 64 (0, 0))) ∧ Aside0 (Below w.heap.size w w'))
 case atStart => exact ⟨(0), oS, H', ⟨Nat.le_refl _⟩, ⟨oF BK222⟩, ⟨oB⟩⟩
 case round =>
  clear H'
  obtain ⟨x5_1, rfl, HA, HK1, BK222, HB⟩ := hrel
  cases gk with
  | zero => exact absurd HA.out (by simp [spec_EntOf.l0])
  | succ k1 =>
   have H := HA.out
   clear HA
   simp only [spec_EntOf.l0] at H
   replace H := itD H
   rcases H with ⟨c4b0, H⟩ | ⟨c4b0, H⟩
   ·replace H := itD H
    rcases H with ⟨c5b0, H⟩ | ⟨c5b0, H⟩
    ·by_cases c6 : ((rd_T91 l0_4 x5_1).f0).toList = a1.toList
     ·rw [if_pos c6] at H
      have c6b0 : (((rd_T91 l0_4 x5_1).f0).toList == a1.toList) = true := beq_iff_eq.mpr c6
      have c6b1 : (((rd_T91 l0_4 x5_1).f0).toList != a1.toList) = false := bne_eq_false_iff_eq.mpr c6
      clear c6
      obtain rfl := Option.some.inj H
      obtain ⟨⟨_, _, _, _, _, _⟩, _, _, _, _, _, _⟩ := z6 BK222
      have p223 : (0 ≤ (x5_1 : Int)) = True := oT
      have q223 : (x5_1 < (l0_4.length : Int)) = True := oT
      obtain ⟨ad223, e223, hx223_0, hx223_1⟩ := at_T91 HR0_4.out x5_1 oa oa
      cases e223
      replace hx223_0 := cB HB hx223_0
      replace hx223_1 := cB HB hx223_1
      have p224 : (0 ≤ (x5_1 : Int)) = True := oT
      have q224 : (x5_1 < (l0_4.length : Int)) = True := oT
      obtain ⟨ad224, e224, hx224_0, hx224_1⟩ := at_T91 HR0_4.out x5_1 oa oa
      obtain rfl : ad223 = ad224 := (by injection e224)
      replace hx224_0 := cB HB hx224_0
      replace hx224_1 := cB HB hx224_1
      go_wp2
      go_ret
      exact ⟨oE, oB⟩
     ·rw [if_neg c6] at H
      have c6b0 : (((rd_T91 l0_4 x5_1).f0).toList == a1.toList) = false := beq_eq_false_iff_ne.mpr c6
      have c6b1 : (((rd_T91 l0_4 x5_1).f0).toList != a1.toList) = true := bne_iff_ne.mpr c6
      have H' := Aside0.mk H
      clear H
      obtain ⟨⟨_, _, _, _, _, _⟩, _, _, _, _, _, _⟩ := z6 BK222
      have p223 : (0 ≤ (x5_1 : Int)) = True := oT
      have q223 : (x5_1 < (l0_4.length : Int)) = True := oT
      obtain ⟨ad223, e223, hx223_0, hx223_1⟩ := at_T91 HR0_4.out x5_1 oa oa
      cases e223
      replace hx223_0 := cB HB hx223_0
      replace hx223_1 := cB HB hx223_1
      go_wp2
      go_roundg k1
      case measure => have := HK1.out; omega
      case rel => exact ⟨(wrap64 (x5_1 + 1)), oS, H', ⟨by have := HK1.out; omega⟩, ⟨oF BK222⟩, ⟨oB⟩⟩
    ·cases H
   ·obtain rfl := Option.some.inj H
    obtain ⟨⟨_, _, _, _, _, _⟩, _, _, _, _, _, _⟩ := z6 BK222
    go_wp2
    go_ret
    exact ⟨oE, oB⟩

end Go.Proofs.YtkfcmpalbhmmaaaDoor.P
