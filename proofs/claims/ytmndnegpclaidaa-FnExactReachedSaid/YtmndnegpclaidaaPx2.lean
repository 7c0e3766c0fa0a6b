-- By this session's own program (wip/myprint.py) out of the translation; Lean checks it.
import Derived.Test.YtmndnegpclaidaaPx0
import Derived.Test.YtmndnegpclaidaaPx1
namespace Go.Proofs.Ytmndnegpclaidaa.P
open Go.RowKit Go.Proofs.YtmndnegpclaidaaW.PrintWords Go.Proofs.YtmndnegpclaidaaW.PrintLast Go.Proofs.YtmndnegpclaidaaW.PrintMore
attribute [local go_sem] max2_int min2_int max_two min_two max_three min_three max_four min_four   -- for this text's walks alone
set_option linter.unusedVariables false
set_option linter.unusedSimpArgs false

/-! ### laws_eqAttrS: function 51 -/
def laws_eqAttrS.l0 : Nat → List (S90) → List (S90) → Int → Option (Bool)
 | 0, _, _, _ => none
 | k + 1, x0, x1, x5 => if x5 < (x0.length : Int) then (if 0 ≤ x5 then (if x5 < (x1.length : Int) then ((laws_eqAttr.f ((rd_T90 x0 x5).f0) ((rd_T90 x0 x5).f1) ((rd_T90 x1 x5).f0) ((rd_T90 x1 x5).f1)).bind fun t186 => (if t186 = true then (laws_eqAttrS.l0 k x0 x1 (wrap64 (x5 + 1))) else (some false))) else (none)) else (none)) else (some true)
def laws_eqAttrS.f (k : Nat) (l0 : List (S90)) (l1 : List (S90)) : Option (Bool) := if (l0.length : Int) = (l1.length : Int) then (laws_eqAttrS.l0 k l0 l1 0) else (some false)
def laws_eqAttrS.T6 : Bool × List (List Nat × List Nat) := (true, [([], []), ([], []), ([0, 1], [0, 1]), ([2], [2]), ([], []), ([], []), ([4, 5], [4, 5]), ([6], [6]), ([3, 7], [3, 7]), ([8], [8])])
def laws_eqAttrS.B6 : List Nat := [0, 0, 3, 7, 0, 0, 48, 112, 255, 511]
theorem laws_eqAttrS.tab6 : rtab .any (opsOf Try.f51 6) = laws_eqAttrS.T6 := by kernel_rfl
theorem laws_eqAttrS.bits6 : waitsOk laws_eqAttrS.T6.2 laws_eqAttrS.B6 = true := by kernel_rfl
set_option maxHeartbeats 8000000 in
set_option maxRecDepth 100000 in
theorem laws_eqAttrS.calls (k : Nat) (A0 : Option Addr) (c0 : Nat) (l0 : List (S90)) (A1 : Option Addr) (c1 : Nat) (l1 : List (S90)) (r : Bool) (w : World) (hr0 : Kd.C k90 w A0 l0.length l0) (hc0 : l0.length ≤ c0) (hr1 : Kd.C k90 w A1 l1.length l1) (hc1 : l1.length ≤ c1) (h : laws_eqAttrS.f k l0 l1 = some r) :
  Calls Try.prog 51 #[.slice A0 l0.length c0, .slice A1 l1.length c1] w fun e w' => e = .returned (.bool r) ∧ Below w.heap.size w w' := by
 have hu90 := Try.underlying90
 have HR0 := Aside0.mk hr0
 have HC0 := Aside0.mk hc0
 clear hr0 hc0
 have HR1 := Aside0.mk hr1
 have HC1 := Aside0.mk hc1
 clear hr1 hc1
 have HB := Aside0.mk (Below.refl w.heap.size w)
 unfold laws_eqAttrS.f at h
 have H := h
 clear h
 by_cases c3 : (l0.length : Int) = (l1.length : Int)
 ·rw [if_pos c3] at H
  have c3b0 : ((l0.length : Int) == (l1.length : Int)) = true := beq_iff_eq.mpr c3
  have c3b1 : ((l0.length : Int) != (l1.length : Int)) = false := bne_eq_false_iff_eq.mpr c3
  have c3b2 : (l0.length == l1.length) = true := by first | simpa using c3 | (simp at c3 ⊢; omega)
  clear c3
  have H' := Aside0.mk H
  clear H
  go_enter Try.func51, Try.ntmps51
  go_wp2
  go_loopg [5] k (fun kq v5 w' => ∃ (x5_1 : Int), v5 = .int .i64 x5_1 ∧ Aside0 (laws_eqAttrS.l0 kq l0 l1 x5_1 = some r) ∧ Aside0 (kq ≤ k) ∧ Aside0 (Below w.heap.size w w'))
  case atStart => exact ⟨(0), oS, H', ⟨Nat.le_refl _⟩, ⟨oB⟩⟩
  case round =>
   clear H'
   try clear c1
   try clear c3
   obtain ⟨x5_1, rfl, HA, HK1, HB⟩ := hrel
   cases gk with
   | zero => exact absurd HA.out (by simp [laws_eqAttrS.l0])
   | succ k1 =>
    have H := HA.out
    clear HA
    simp only [laws_eqAttrS.l0] at H
    replace H := itD H
    rcases H with ⟨c4b0, H⟩ | ⟨c4b0, H⟩
    ·replace H := itD H
     rcases H with ⟨c5b0, H⟩ | ⟨c5b0, H⟩
     ·replace H := itD H
      rcases H with ⟨c6b0, H⟩ | ⟨c6b0, H⟩
      ·replace H := bA H
       obtain ⟨t186, A7, H⟩ := H
       try dsimp only at H
       replace H := itB H
       rcases H with ⟨rfl, H⟩ | ⟨rfl, H⟩
       ·have H' := Aside0.mk H
        clear H
        try go_wp2
        replace HB := Aside0.mk (below_drew1 HB.out)
        have p184 : (0 ≤ (x5_1 : Int)) = True := oT
        have q184 : (x5_1 < (l0.length : Int)) = True := oT
        obtain ⟨ad184, e184, hx184_0, hx184_1⟩ := at_T90 HR0.out x5_1 oa oa
        have hw184_1 := hx184_1
        have hw184_0 := hx184_0
        cases e184
        replace hx184_0 := cB HB hx184_0
        replace hx184_1 := cB HB hx184_1
        have p185 : (0 ≤ (x5_1 : Int)) = True := oT
        have q185 : (x5_1 < (l1.length : Int)) = True := oT
        obtain ⟨ad185, e185, hx185_0, hx185_1⟩ := at_T90 HR1.out x5_1 oa oa
        have hw185_1 := hx185_1
        have hw185_0 := hx185_0
        cases e185
        replace hx185_0 := cB HB hx185_0
        replace hx185_1 := cB HB hx185_1
        refine st_ 10 (fun w' => w'.cell? (ad184.add ((x5_1).toNat * 2)) = some (.string ((rd_T90 l0 x5_1).f0)) ∧ w'.cell? ⟨(ad184.add ((x5_1).toNat * 2)).block, (ad184.add ((x5_1).toNat * 2)).off + 1, none⟩ = some (.string ((rd_T90 l0 x5_1).f1)) ∧ w'.cell? (ad185.add ((x5_1).toNat * 2)) = some (.string ((rd_T90 l1 x5_1).f0)) ∧ w'.cell? ⟨(ad185.add ((x5_1).toNat * 2)).block, (ad185.add ((x5_1).toNat * 2)).off + 1, none⟩ = some (.string ((rd_T90 l1 x5_1).f1))) laws_eqAttrS.tab6 laws_eqAttrS.bits6 oH (fun hHeld HT_ HW_ => ?_)
        generalize wr.drew = w9 at HB hx184_0 hx184_1 hx185_0 hx185_1 hHeld ⊢
        refine pu_ 0 17 HT_ ?_
        refine pu_ 1 18 HT_ ?_
        refine pu_ 2 19 HT_ ?_
        refine pu_ 4 21 HT_ ?_
        refine pu_ 5 22 HT_ ?_
        refine pu_ 6 23 HT_ ?_
        refine ta_ 3 20 HT_ HW_ hHeld ?_
        refine ta_ 7 24 HT_ HW_ hHeld ?_
        refine on_ 8 25 HT_ (fun K hK => ?_)
        refine gr_ 25 Try.func84 (laws_eqAttr.calls ((rd_T90 l0 x5_1).f0) ((rd_T90 l0 x5_1).f1) ((rd_T90 l1 x5_1).f0) ((rd_T90 l1 x5_1).f1) true _ A7.out) ?_
        rintro e w10 ⟨rfl, hb⟩
        refine ⟨_, rfl, ?_⟩
        replace HB := Aside0.mk (below_step oB hb)
        refine hk_ hK 25 oH (fun hHeld => ?_)
        clear hK K
        refine pu_ 9 26 HT_ ?_
        refine dn_ HT_ ?_
        try go_wp2
        go_roundg k1
        case measure => have := HK1.out; omega
        case rel => exact ⟨(wrap64 (x5_1 + 1)), oS, H', ⟨by have := HK1.out; omega⟩, ⟨oB⟩⟩
       ·obtain rfl := Option.some.inj H
        try go_wp2
        replace HB := Aside0.mk (below_drew1 HB.out)
        have p184 : (0 ≤ (x5_1 : Int)) = True := oT
        have q184 : (x5_1 < (l0.length : Int)) = True := oT
        obtain ⟨ad184, e184, hx184_0, hx184_1⟩ := at_T90 HR0.out x5_1 oa oa
        have hw184_1 := hx184_1
        have hw184_0 := hx184_0
        cases e184
        replace hx184_0 := cB HB hx184_0
        replace hx184_1 := cB HB hx184_1
        have p185 : (0 ≤ (x5_1 : Int)) = True := oT
        have q185 : (x5_1 < (l1.length : Int)) = True := oT
        obtain ⟨ad185, e185, hx185_0, hx185_1⟩ := at_T90 HR1.out x5_1 oa oa
        have hw185_1 := hx185_1
        have hw185_0 := hx185_0
        cases e185
        replace hx185_0 := cB HB hx185_0
        replace hx185_1 := cB HB hx185_1
        refine st_ 10 (fun w' => w'.cell? (ad184.add ((x5_1).toNat * 2)) = some (.string ((rd_T90 l0 x5_1).f0)) ∧ w'.cell? ⟨(ad184.add ((x5_1).toNat * 2)).block, (ad184.add ((x5_1).toNat * 2)).off + 1, none⟩ = some (.string ((rd_T90 l0 x5_1).f1)) ∧ w'.cell? (ad185.add ((x5_1).toNat * 2)) = some (.string ((rd_T90 l1 x5_1).f0)) ∧ w'.cell? ⟨(ad185.add ((x5_1).toNat * 2)).block, (ad185.add ((x5_1).toNat * 2)).off + 1, none⟩ = some (.string ((rd_T90 l1 x5_1).f1))) laws_eqAttrS.tab6 laws_eqAttrS.bits6 oH (fun hHeld HT_ HW_ => ?_)
        generalize wr.drew = w11 at HB hx184_0 hx184_1 hx185_0 hx185_1 hHeld ⊢
        refine pu_ 0 17 HT_ ?_
        refine pu_ 1 18 HT_ ?_
        refine pu_ 2 19 HT_ ?_
        refine pu_ 4 21 HT_ ?_
        refine pu_ 5 22 HT_ ?_
        refine pu_ 6 23 HT_ ?_
        refine ta_ 3 20 HT_ HW_ hHeld ?_
        refine ta_ 7 24 HT_ HW_ hHeld ?_
        refine on_ 8 25 HT_ (fun K hK => ?_)
        refine gr_ 25 Try.func84 (laws_eqAttr.calls ((rd_T90 l0 x5_1).f0) ((rd_T90 l0 x5_1).f1) ((rd_T90 l1 x5_1).f0) ((rd_T90 l1 x5_1).f1) false _ A7.out) ?_
        rintro e w12 ⟨rfl, hb⟩
        refine ⟨_, rfl, ?_⟩
        replace HB := Aside0.mk (below_step oB hb)
        refine hk_ hK 25 oH (fun hHeld => ?_)
        clear hK K
        refine pu_ 9 26 HT_ ?_
        refine dn_ HT_ ?_
        try go_wp2
        go_ret
        exact ⟨oE, oB⟩
      ·cases H
     ·cases H
    ·obtain rfl := Option.some.inj H
     go_wp2
     go_ret
     exact ⟨oE, oB⟩
 ·rw [if_neg c3] at H
  have c3b0 : ((l0.length : Int) == (l1.length : Int)) = false := beq_eq_false_iff_ne.mpr c3
  have c3b1 : ((l0.length : Int) != (l1.length : Int)) = true := bne_iff_ne.mpr c3
  have c3b2 : (l0.length == l1.length) = false := by first | simpa using c3 | (simp at c3 ⊢; omega)
  obtain rfl := Option.some.inj H
  go_enter Try.func51, Try.ntmps51
  go_wp2
  go_ret
  exact ⟨oE, oB⟩

/-! ### laws_eqInode: function 14 -/
def laws_eqInode.f (k : Nat) (a0_0 : Int) (a0_1 : Int) (a0_2 : Int) (l0_3 : List Int) (l0_4 : List (S82)) (l0_5 : List (S90)) (a1_0 : Int) (a1_1 : Int) (a1_2 : Int) (l1_3 : List Int) (l1_4 : List (S82)) (l1_5 : List (S90)) : Option (Bool) := if a0_0 = a1_0 then (if a0_1 = a1_1 then (if a0_2 = a1_2 then ((laws_eqByteS.f k l0_3 l1_3).bind fun t189 => (if t189 = true then ((laws_eqEntS.f k l0_4 l1_4).bind fun t190 => (if t190 = true then ((laws_eqAttrS.f k l0_5 l1_5).bind fun t191 => (if t191 = true then (some true) else (some false))) else (some false))) else (some false))) else (some false)) else (some false)) else (some false)
set_option maxHeartbeats 8000000 in
set_option maxRecDepth 100000 in
theorem laws_eqInode.calls (k : Nat) (a0_0 : Int) (a0_1 : Int) (a0_2 : Int) (A0_3 : Option Addr) (c0_3 : Nat) (l0_3 : List Int) (A0_4 : Option Addr) (c0_4 : Nat) (l0_4 : List (S82)) (A0_5 : Option Addr) (c0_5 : Nat) (l0_5 : List (S90)) (a1_0 : Int) (a1_1 : Int) (a1_2 : Int) (A1_3 : Option Addr) (c1_3 : Nat) (l1_3 : List Int) (A1_4 : Option Addr) (c1_4 : Nat) (l1_4 : List (S82)) (A1_5 : Option Addr) (c1_5 : Nat) (l1_5 : List (S90)) (r : Bool) (w : World) (hr0_3 : Kd.C (Kd.int .u8) w A0_3 l0_3.length l0_3) (hc0_3 : l0_3.length ≤ c0_3) (hr0_4 : Kd.C k82 w A0_4 l0_4.length l0_4) (hc0_4 : l0_4.length ≤ c0_4) (hr0_5 : Kd.C k90 w A0_5 l0_5.length l0_5) (hc0_5 : l0_5.length ≤ c0_5) (hr1_3 : Kd.C (Kd.int .u8) w A1_3 l1_3.length l1_3) (hc1_3 : l1_3.length ≤ c1_3) (hr1_4 : Kd.C k82 w A1_4 l1_4.length l1_4) (hc1_4 : l1_4.length ≤ c1_4) (hr1_5 : Kd.C k90 w A1_5 l1_5.length l1_5) (hc1_5 : l1_5.length ≤ c1_5) (h : laws_eqInode.f k a0_0 a0_1 a0_2 l0_3 l0_4 l0_5 a1_0 a1_1 a1_2 l1_3 l1_4 l1_5 = some r) :
  Calls Try.prog 14 #[.agg #[.int .i64 a0_0, .int .i64 a0_1, .int .i64 a0_2, .slice A0_3 l0_3.length c0_3, .slice A0_4 l0_4.length c0_4, .slice A0_5 l0_5.length c0_5], .agg #[.int .i64 a1_0, .int .i64 a1_1, .int .i64 a1_2, .slice A1_3 l1_3.length c1_3, .slice A1_4 l1_4.length c1_4, .slice A1_5 l1_5.length c1_5]] w fun e w' => e = .returned (.bool r) ∧ Below w.heap.size w w' := by
 have hu40 := Try.underlying40
 have HR0_3 := Aside0.mk hr0_3
 have HC0_3 := Aside0.mk hc0_3
 clear hr0_3 hc0_3
 have HR0_4 := Aside0.mk hr0_4
 have HC0_4 := Aside0.mk hc0_4
 clear hr0_4 hc0_4
 have HR0_5 := Aside0.mk hr0_5
 have HC0_5 := Aside0.mk hc0_5
 clear hr0_5 hc0_5
 have HR1_3 := Aside0.mk hr1_3
 have HC1_3 := Aside0.mk hc1_3
 clear hr1_3 hc1_3
 have HR1_4 := Aside0.mk hr1_4
 have HC1_4 := Aside0.mk hc1_4
 clear hr1_4 hc1_4
 have HR1_5 := Aside0.mk hr1_5
 have HC1_5 := Aside0.mk hc1_5
 clear hr1_5 hc1_5
 have HB := Aside0.mk (Below.refl w.heap.size w)
 unfold laws_eqInode.f at h
 have H := h
 clear h
 by_cases c3 : a0_0 = a1_0
 ·rw [if_pos c3] at H
  have c3b0 : (a0_0 == a1_0) = true := beq_iff_eq.mpr c3
  have c3b1 : (a0_0 != a1_0) = false := bne_eq_false_iff_eq.mpr c3
  clear c3
  by_cases c4 : a0_1 = a1_1
  ·rw [if_pos c4] at H
   have c4b0 : (a0_1 == a1_1) = true := beq_iff_eq.mpr c4
   have c4b1 : (a0_1 != a1_1) = false := bne_eq_false_iff_eq.mpr c4
   clear c4
   by_cases c5 : a0_2 = a1_2
   ·rw [if_pos c5] at H
    have c5b0 : (a0_2 == a1_2) = true := beq_iff_eq.mpr c5
    have c5b1 : (a0_2 != a1_2) = false := bne_eq_false_iff_eq.mpr c5
    clear c5
    replace H := bA H
    obtain ⟨t189, A6, H⟩ := H
    try dsimp only at H
    replace H := itB H
    rcases H with ⟨rfl, H⟩ | ⟨rfl, H⟩
    ·replace H := bA H
     obtain ⟨t190, A8, H⟩ := H
     try dsimp only at H
     replace H := itB H
     rcases H with ⟨rfl, H⟩ | ⟨rfl, H⟩
     ·replace H := bA H
      obtain ⟨t191, A10, H⟩ := H
      try dsimp only at H
      replace H := itB H
      rcases H with ⟨rfl, H⟩ | ⟨rfl, H⟩
      ·obtain rfl := Option.some.inj H
       go_enter Try.func14, Try.ntmps14
       go_wp2_with (first | ((with_reducible refine gate_dst (N := 2) rfl ?_); refine bx_ 2 #[.int .i64 a0_0, .int .i64 a0_1, .int .i64 a0_2, .slice A0_3 l0_3.length c0_3, .slice A0_4 l0_4.length c0_4, .slice A0_5 l0_5.length c0_5] 40 ?_; intro gb187 hg w12 hbox hb; have BK187 := Aside0.mk (hbox); have GW187 := gs_ hg; have GE187 := gs_ hg; replace HB := Aside0.mk (below_step oB hb); clear hb hbox hg) | ((with_reducible refine gate_dst (N := 3) rfl ?_); refine bx_ 3 #[.int .i64 a1_0, .int .i64 a1_1, .int .i64 a1_2, .slice A1_3 l1_3.length c1_3, .slice A1_4 l1_4.length c1_4, .slice A1_5 l1_5.length c1_5] 40 ?_; intro gb188 hg w13 hbox hb; have BK188 := Aside0.mk (hbox); have GW188 := gs_ hg; have GE188 := gs_ hg; have NB187_188 := nl_ hg BK187; have NB188_187 := nr_ hg BK187; replace BK187 := kb_ BK187 hb; replace HB := Aside0.mk (below_step oB hb); clear hb hbox hg; have hnb14 := NB187_188.out; have hnc14 := NB188_187.out; obtain ⟨⟨_, _, _, _, _, _⟩, _, _, _, _, _, _⟩ := z6 BK187; obtain ⟨⟨_, _, _, _, _, _⟩, _, _, _, _, _, _⟩ := z6 BK188) | ((with_reducible refine gate_callee (f := 49) rfl ?_); refine gl_ 24 Try.func49 (laws_eqByteS.calls k _ _ l0_3 _ _ l1_3 true _ (kC HR0_3) HC0_3.out (kC HR1_3) HC1_3.out A6.out) ?_; rintro e w' ⟨rfl, ⟨nd, rfl⟩⟩; refine ⟨_, rfl, ?_⟩) | ((with_reducible refine gate_callee (f := 50) rfl ?_); refine gl_ 30 Try.func50 (laws_eqEntS.calls k _ _ l0_4 _ _ l1_4 true _ (kC HR0_4) HC0_4.out (kC HR1_4) HC1_4.out A8.out) ?_; rintro e w17 ⟨rfl, hb⟩; refine ⟨_, rfl, ?_⟩; replace BK187 := kb_ BK187 hb; replace BK188 := kb_ BK188 hb; replace HB := Aside0.mk (below_step oB hb); obtain ⟨⟨_, _, _, _, _, _⟩, _, _, _, _, _, _⟩ := z6 BK187; obtain ⟨⟨_, _, _, _, _, _⟩, _, _, _, _, _, _⟩ := z6 BK188) | ((with_reducible refine gate_callee (f := 51) rfl ?_); refine gl_ 36 Try.func51 (laws_eqAttrS.calls k _ _ l0_5 _ _ l1_5 true _ (kC HR0_5) HC0_5.out (kC HR1_5) HC1_5.out A10.out) ?_; rintro e w20 ⟨rfl, hb⟩; refine ⟨_, rfl, ?_⟩; replace BK187 := kb_ BK187 hb; replace BK188 := kb_ BK188 hb; replace HB := Aside0.mk (below_step oB hb)))
       go_ret
       exact ⟨oE, oB⟩
      ·obtain rfl := Option.some.inj H
       go_enter Try.func14, Try.ntmps14
       go_wp2_with (first | ((with_reducible refine gate_dst (N := 2) rfl ?_); refine bx_ 2 #[.int .i64 a0_0, .int .i64 a0_1, .int .i64 a0_2, .slice A0_3 l0_3.length c0_3, .slice A0_4 l0_4.length c0_4, .slice A0_5 l0_5.length c0_5] 40 ?_; intro gb187 hg w21 hbox hb; have BK187 := Aside0.mk (hbox); have GW187 := gs_ hg; have GE187 := gs_ hg; replace HB := Aside0.mk (below_step oB hb); clear hb hbox hg) | ((with_reducible refine gate_dst (N := 3) rfl ?_); refine bx_ 3 #[.int .i64 a1_0, .int .i64 a1_1, .int .i64 a1_2, .slice A1_3 l1_3.length c1_3, .slice A1_4 l1_4.length c1_4, .slice A1_5 l1_5.length c1_5] 40 ?_; intro gb188 hg w22 hbox hb; have BK188 := Aside0.mk (hbox); have GW188 := gs_ hg; have GE188 := gs_ hg; have NB187_188 := nl_ hg BK187; have NB188_187 := nr_ hg BK187; replace BK187 := kb_ BK187 hb; replace HB := Aside0.mk (below_step oB hb); clear hb hbox hg; have hnb23 := NB187_188.out; have hnc23 := NB188_187.out; obtain ⟨⟨_, _, _, _, _, _⟩, _, _, _, _, _, _⟩ := z6 BK187; obtain ⟨⟨_, _, _, _, _, _⟩, _, _, _, _, _, _⟩ := z6 BK188) | ((with_reducible refine gate_callee (f := 49) rfl ?_); refine gl_ 24 Try.func49 (laws_eqByteS.calls k _ _ l0_3 _ _ l1_3 true _ (kC HR0_3) HC0_3.out (kC HR1_3) HC1_3.out A6.out) ?_; rintro e w' ⟨rfl, ⟨nd, rfl⟩⟩; refine ⟨_, rfl, ?_⟩) | ((with_reducible refine gate_callee (f := 50) rfl ?_); refine gl_ 30 Try.func50 (laws_eqEntS.calls k _ _ l0_4 _ _ l1_4 true _ (kC HR0_4) HC0_4.out (kC HR1_4) HC1_4.out A8.out) ?_; rintro e w26 ⟨rfl, hb⟩; refine ⟨_, rfl, ?_⟩; replace BK187 := kb_ BK187 hb; replace BK188 := kb_ BK188 hb; replace HB := Aside0.mk (below_step oB hb); obtain ⟨⟨_, _, _, _, _, _⟩, _, _, _, _, _, _⟩ := z6 BK187; obtain ⟨⟨_, _, _, _, _, _⟩, _, _, _, _, _, _⟩ := z6 BK188) | ((with_reducible refine gate_callee (f := 51) rfl ?_); refine gl_ 36 Try.func51 (laws_eqAttrS.calls k _ _ l0_5 _ _ l1_5 false _ (kC HR0_5) HC0_5.out (kC HR1_5) HC1_5.out A10.out) ?_; rintro e w29 ⟨rfl, hb⟩; refine ⟨_, rfl, ?_⟩; replace BK187 := kb_ BK187 hb; replace BK188 := kb_ BK188 hb; replace HB := Aside0.mk (below_step oB hb)))
       go_ret
       exact ⟨oE, oB⟩
     ·obtain rfl := Option.some.inj H
      go_enter Try.func14, Try.ntmps14
      go_wp2_with (first | ((with_reducible refine gate_dst (N := 2) rfl ?_); refine bx_ 2 #[.int .i64 a0_0, .int .i64 a0_1, .int .i64 a0_2, .slice A0_3 l0_3.length c0_3, .slice A0_4 l0_4.length c0_4, .slice A0_5 l0_5.length c0_5] 40 ?_; intro gb187 hg w30 hbox hb; have BK187 := Aside0.mk (hbox); have GW187 := gs_ hg; have GE187 := gs_ hg; replace HB := Aside0.mk (below_step oB hb); clear hb hbox hg) | ((with_reducible refine gate_dst (N := 3) rfl ?_); refine bx_ 3 #[.int .i64 a1_0, .int .i64 a1_1, .int .i64 a1_2, .slice A1_3 l1_3.length c1_3, .slice A1_4 l1_4.length c1_4, .slice A1_5 l1_5.length c1_5] 40 ?_; intro gb188 hg w31 hbox hb; have BK188 := Aside0.mk (hbox); have GW188 := gs_ hg; have GE188 := gs_ hg; have NB187_188 := nl_ hg BK187; have NB188_187 := nr_ hg BK187; replace BK187 := kb_ BK187 hb; replace HB := Aside0.mk (below_step oB hb); clear hb hbox hg; have hnb32 := NB187_188.out; have hnc32 := NB188_187.out; obtain ⟨⟨_, _, _, _, _, _⟩, _, _, _, _, _, _⟩ := z6 BK187; obtain ⟨⟨_, _, _, _, _, _⟩, _, _, _, _, _, _⟩ := z6 BK188) | ((with_reducible refine gate_callee (f := 49) rfl ?_); refine gl_ 24 Try.func49 (laws_eqByteS.calls k _ _ l0_3 _ _ l1_3 true _ (kC HR0_3) HC0_3.out (kC HR1_3) HC1_3.out A6.out) ?_; rintro e w' ⟨rfl, ⟨nd, rfl⟩⟩; refine ⟨_, rfl, ?_⟩) | ((with_reducible refine gate_callee (f := 50) rfl ?_); refine gl_ 30 Try.func50 (laws_eqEntS.calls k _ _ l0_4 _ _ l1_4 false _ (kC HR0_4) HC0_4.out (kC HR1_4) HC1_4.out A8.out) ?_; rintro e w35 ⟨rfl, hb⟩; refine ⟨_, rfl, ?_⟩; replace BK187 := kb_ BK187 hb; replace BK188 := kb_ BK188 hb; replace HB := Aside0.mk (below_step oB hb)))
      go_ret
      exact ⟨oE, oB⟩
    ·obtain rfl := Option.some.inj H
     go_enter Try.func14, Try.ntmps14
     go_wp2_with (first | ((with_reducible refine gate_dst (N := 2) rfl ?_); refine bx_ 2 #[.int .i64 a0_0, .int .i64 a0_1, .int .i64 a0_2, .slice A0_3 l0_3.length c0_3, .slice A0_4 l0_4.length c0_4, .slice A0_5 l0_5.length c0_5] 40 ?_; intro gb187 hg w36 hbox hb; have BK187 := Aside0.mk (hbox); have GW187 := gs_ hg; have GE187 := gs_ hg; replace HB := Aside0.mk (below_step oB hb); clear hb hbox hg) | ((with_reducible refine gate_dst (N := 3) rfl ?_); refine bx_ 3 #[.int .i64 a1_0, .int .i64 a1_1, .int .i64 a1_2, .slice A1_3 l1_3.length c1_3, .slice A1_4 l1_4.length c1_4, .slice A1_5 l1_5.length c1_5] 40 ?_; intro gb188 hg w37 hbox hb; have BK188 := Aside0.mk (hbox); have GW188 := gs_ hg; have GE188 := gs_ hg; have NB187_188 := nl_ hg BK187; have NB188_187 := nr_ hg BK187; replace BK187 := kb_ BK187 hb; replace HB := Aside0.mk (below_step oB hb); clear hb hbox hg; have hnb38 := NB187_188.out; have hnc38 := NB188_187.out; obtain ⟨⟨_, _, _, _, _, _⟩, _, _, _, _, _, _⟩ := z6 BK187; obtain ⟨⟨_, _, _, _, _, _⟩, _, _, _, _, _, _⟩ := z6 BK188) | ((with_reducible refine gate_callee (f := 49) rfl ?_); refine gl_ 24 Try.func49 (laws_eqByteS.calls k _ _ l0_3 _ _ l1_3 false _ (kC HR0_3) HC0_3.out (kC HR1_3) HC1_3.out A6.out) ?_; rintro e w' ⟨rfl, ⟨nd, rfl⟩⟩; refine ⟨_, rfl, ?_⟩))
     go_ret
     exact ⟨oE, oB⟩
   ·rw [if_neg c5] at H
    have c5b0 : (a0_2 == a1_2) = false := beq_eq_false_iff_ne.mpr c5
    have c5b1 : (a0_2 != a1_2) = true := bne_iff_ne.mpr c5
    obtain rfl := Option.some.inj H
    go_enter Try.func14, Try.ntmps14
    go_wp2_with (first | ((with_reducible refine gate_dst (N := 2) rfl ?_); refine bx_ 2 #[.int .i64 a0_0, .int .i64 a0_1, .int .i64 a0_2, .slice A0_3 l0_3.length c0_3, .slice A0_4 l0_4.length c0_4, .slice A0_5 l0_5.length c0_5] 40 ?_; intro gb187 hg w41 hbox hb; have BK187 := Aside0.mk (hbox); have GW187 := gs_ hg; have GE187 := gs_ hg; replace HB := Aside0.mk (below_step oB hb); clear hb hbox hg) | ((with_reducible refine gate_dst (N := 3) rfl ?_); refine bx_ 3 #[.int .i64 a1_0, .int .i64 a1_1, .int .i64 a1_2, .slice A1_3 l1_3.length c1_3, .slice A1_4 l1_4.length c1_4, .slice A1_5 l1_5.length c1_5] 40 ?_; intro gb188 hg w42 hbox hb; have BK188 := Aside0.mk (hbox); have GW188 := gs_ hg; have GE188 := gs_ hg; have NB187_188 := nl_ hg BK187; have NB188_187 := nr_ hg BK187; replace BK187 := kb_ BK187 hb; replace HB := Aside0.mk (below_step oB hb); clear hb hbox hg; have hnb43 := NB187_188.out; have hnc43 := NB188_187.out; obtain ⟨⟨_, _, _, _, _, _⟩, _, _, _, _, _, _⟩ := z6 BK187; obtain ⟨⟨_, _, _, _, _, _⟩, _, _, _, _, _, _⟩ := z6 BK188))
    go_ret
    exact ⟨oE, oB⟩
  ·rw [if_neg c4] at H
   have c4b0 : (a0_1 == a1_1) = false := beq_eq_false_iff_ne.mpr c4
   have c4b1 : (a0_1 != a1_1) = true := bne_iff_ne.mpr c4
   obtain rfl := Option.some.inj H
   go_enter Try.func14, Try.ntmps14
   go_wp2_with (first | ((with_reducible refine gate_dst (N := 2) rfl ?_); refine bx_ 2 #[.int .i64 a0_0, .int .i64 a0_1, .int .i64 a0_2, .slice A0_3 l0_3.length c0_3, .slice A0_4 l0_4.length c0_4, .slice A0_5 l0_5.length c0_5] 40 ?_; intro gb187 hg w46 hbox hb; have BK187 := Aside0.mk (hbox); have GW187 := gs_ hg; have GE187 := gs_ hg; replace HB := Aside0.mk (below_step oB hb); clear hb hbox hg) | ((with_reducible refine gate_dst (N := 3) rfl ?_); refine bx_ 3 #[.int .i64 a1_0, .int .i64 a1_1, .int .i64 a1_2, .slice A1_3 l1_3.length c1_3, .slice A1_4 l1_4.length c1_4, .slice A1_5 l1_5.length c1_5] 40 ?_; intro gb188 hg w47 hbox hb; have BK188 := Aside0.mk (hbox); have GW188 := gs_ hg; have GE188 := gs_ hg; have NB187_188 := nl_ hg BK187; have NB188_187 := nr_ hg BK187; replace BK187 := kb_ BK187 hb; replace HB := Aside0.mk (below_step oB hb); clear hb hbox hg; have hnb48 := NB187_188.out; have hnc48 := NB188_187.out; obtain ⟨⟨_, _, _, _, _, _⟩, _, _, _, _, _, _⟩ := z6 BK187; obtain ⟨⟨_, _, _, _, _, _⟩, _, _, _, _, _, _⟩ := z6 BK188))
   go_ret
   exact ⟨oE, oB⟩
 ·rw [if_neg c3] at H
  have c3b0 : (a0_0 == a1_0) = false := beq_eq_false_iff_ne.mpr c3
  have c3b1 : (a0_0 != a1_0) = true := bne_iff_ne.mpr c3
  obtain rfl := Option.some.inj H
  go_enter Try.func14, Try.ntmps14
  go_wp2_with (first | ((with_reducible refine gate_dst (N := 2) rfl ?_); refine bx_ 2 #[.int .i64 a0_0, .int .i64 a0_1, .int .i64 a0_2, .slice A0_3 l0_3.length c0_3, .slice A0_4 l0_4.length c0_4, .slice A0_5 l0_5.length c0_5] 40 ?_; intro gb187 hg w51 hbox hb; have BK187 := Aside0.mk (hbox); have GW187 := gs_ hg; have GE187 := gs_ hg; replace HB := Aside0.mk (below_step oB hb); clear hb hbox hg) | ((with_reducible refine gate_dst (N := 3) rfl ?_); refine bx_ 3 #[.int .i64 a1_0, .int .i64 a1_1, .int .i64 a1_2, .slice A1_3 l1_3.length c1_3, .slice A1_4 l1_4.length c1_4, .slice A1_5 l1_5.length c1_5] 40 ?_; intro gb188 hg w52 hbox hb; have BK188 := Aside0.mk (hbox); have GW188 := gs_ hg; have GE188 := gs_ hg; have NB187_188 := nl_ hg BK187; have NB188_187 := nr_ hg BK187; replace BK187 := kb_ BK187 hb; replace HB := Aside0.mk (below_step oB hb); clear hb hbox hg; have hnb53 := NB187_188.out; have hnc53 := NB188_187.out; obtain ⟨⟨_, _, _, _, _, _⟩, _, _, _, _, _, _⟩ := z6 BK187; obtain ⟨⟨_, _, _, _, _, _⟩, _, _, _, _, _, _⟩ := z6 BK188))
  go_ret
  exact ⟨oE, oB⟩

/-! ### laws_eqInodeS: function 48 -/
def laws_eqInodeS.l0 : Nat → List (S40) → List (S40) → Int → Option (Bool)
 | 0, _, _, _ => none
 | k + 1, x0, x1, x5 => if x5 < (x0.length : Int) then (if 0 ≤ x5 then (if x5 < (x1.length : Int) then ((laws_eqInode.f k ((rd_T40 x0 x5).f0) ((rd_T40 x0 x5).f1) ((rd_T40 x0 x5).f2) ((rd_T40 x0 x5).f3) ((rd_T40 x0 x5).f4) ((rd_T40 x0 x5).f5) ((rd_T40 x1 x5).f0) ((rd_T40 x1 x5).f1) ((rd_T40 x1 x5).f2) ((rd_T40 x1 x5).f3) ((rd_T40 x1 x5).f4) ((rd_T40 x1 x5).f5)).bind fun t194 => (if t194 = true then (laws_eqInodeS.l0 k x0 x1 (wrap64 (x5 + 1))) else (some false))) else (none)) else (none)) else (some true)
def laws_eqInodeS.f (k : Nat) (l0 : List (S40)) (l1 : List (S40)) : Option (Bool) := if (l0.length : Int) = (l1.length : Int) then (laws_eqInodeS.l0 k l0 l1 0) else (some false)
def laws_eqInodeS.T6 : Bool × List (List Nat × List Nat) := (true, [([], []), ([], []), ([0, 1], [0, 1]), ([2], [2]), ([], []), ([], []), ([4, 5], [4, 5]), ([6], [6]), ([3, 7], [3, 7]), ([8], [8])])
def laws_eqInodeS.B6 : List Nat := [0, 0, 3, 7, 0, 0, 48, 112, 255, 511]
theorem laws_eqInodeS.tab6 : rtab .any (opsOf Try.f48 6) = laws_eqInodeS.T6 := by kernel_rfl
theorem laws_eqInodeS.bits6 : waitsOk laws_eqInodeS.T6.2 laws_eqInodeS.B6 = true := by kernel_rfl
set_option maxHeartbeats 8000000 in
set_option maxRecDepth 100000 in
theorem laws_eqInodeS.calls (k : Nat) (A0 : Option Addr) (c0 : Nat) (l0 : List (S40)) (A1 : Option Addr) (c1 : Nat) (l1 : List (S40)) (r : Bool) (w : World) (hr0 : Kd.C k40 w A0 l0.length l0) (hc0 : l0.length ≤ c0) (hr1 : Kd.C k40 w A1 l1.length l1) (hc1 : l1.length ≤ c1) (h : laws_eqInodeS.f k l0 l1 = some r) :
  Calls Try.prog 48 #[.slice A0 l0.length c0, .slice A1 l1.length c1] w fun e w' => e = .returned (.bool r) ∧ Below w.heap.size w w' := by
 have hu40 := Try.underlying40
 have HR0 := Aside0.mk hr0
 have HC0 := Aside0.mk hc0
 clear hr0 hc0
 have HR1 := Aside0.mk hr1
 have HC1 := Aside0.mk hc1
 clear hr1 hc1
 have HB := Aside0.mk (Below.refl w.heap.size w)
 unfold laws_eqInodeS.f at h
 have H := h
 clear h
 by_cases c3 : (l0.length : Int) = (l1.length : Int)
 ·rw [if_pos c3] at H
  have c3b0 : ((l0.length : Int) == (l1.length : Int)) = true := beq_iff_eq.mpr c3
  have c3b1 : ((l0.length : Int) != (l1.length : Int)) = false := bne_eq_false_iff_eq.mpr c3
  have c3b2 : (l0.length == l1.length) = true := by first | simpa using c3 | (simp at c3 ⊢; omega)
  clear c3
  have H' := Aside0.mk H
  clear H
  go_enter Try.func48, Try.ntmps48
  go_wp2
  go_loopg [5] k (fun kq v5 w' => ∃ (x5_1 : Int), v5 = .int .i64 x5_1 ∧ Aside0 (laws_eqInodeS.l0 kq l0 l1 x5_1 = some r) ∧ Aside0 (kq ≤ k) ∧ Aside0 (Below w.heap.size w w'))
  case atStart => exact ⟨(0), oS, H', ⟨Nat.le_refl _⟩, ⟨oB⟩⟩
  case round =>
   clear H'
   try clear c1
   try clear c3
   obtain ⟨x5_1, rfl, HA, HK1, HB⟩ := hrel
   cases gk with
   | zero => exact absurd HA.out (by simp [laws_eqInodeS.l0])
   | succ k1 =>
    have H := HA.out
    clear HA
    simp only [laws_eqInodeS.l0] at H
    replace H := itD H
    rcases H with ⟨c4b0, H⟩ | ⟨c4b0, H⟩
    ·replace H := itD H
     rcases H with ⟨c5b0, H⟩ | ⟨c5b0, H⟩
     ·replace H := itD H
      rcases H with ⟨c6b0, H⟩ | ⟨c6b0, H⟩
      ·replace H := bA H
       obtain ⟨t194, A7, H⟩ := H
       try dsimp only at H
       replace H := itB H
       rcases H with ⟨rfl, H⟩ | ⟨rfl, H⟩
       ·have H' := Aside0.mk H
        clear H
        try go_wp2
        replace HB := Aside0.mk (below_drew1 HB.out)
        have p192 : (0 ≤ (x5_1 : Int)) = True := oT
        have q192 : (x5_1 < (l0.length : Int)) = True := oT
        obtain ⟨ad192, A192_3, c192_3, A192_4, c192_4, A192_5, c192_5, e192, hx192_0, hx192_1, hx192_2, hx192_3, hx192_4, hx192_5, hl192_3, hi192_3, hl192_4, hi192_4, hl192_5, hi192_5⟩ := at_T40 HR0.out x5_1 oa oa
        have hw192_5 := hx192_5
        have hw192_4 := hx192_4
        have hw192_3 := hx192_3
        have hw192_2 := hx192_2
        have hw192_1 := hx192_1
        have hw192_0 := hx192_0
        cases e192
        replace hx192_0 := cB HB hx192_0
        replace hx192_1 := cB HB hx192_1
        replace hx192_2 := cB HB hx192_2
        replace hx192_3 := cB HB hx192_3
        replace hx192_4 := cB HB hx192_4
        replace hx192_5 := cB HB hx192_5
        have HR192_3 := Aside0.mk hi192_3
        have HC192_3 := Aside0.mk hl192_3
        clear hi192_3 hl192_3
        have HR192_4 := Aside0.mk hi192_4
        have HC192_4 := Aside0.mk hl192_4
        clear hi192_4 hl192_4
        have HR192_5 := Aside0.mk hi192_5
        have HC192_5 := Aside0.mk hl192_5
        clear hi192_5 hl192_5
        have p193 : (0 ≤ (x5_1 : Int)) = True := oT
        have q193 : (x5_1 < (l1.length : Int)) = True := oT
        obtain ⟨ad193, A193_3, c193_3, A193_4, c193_4, A193_5, c193_5, e193, hx193_0, hx193_1, hx193_2, hx193_3, hx193_4, hx193_5, hl193_3, hi193_3, hl193_4, hi193_4, hl193_5, hi193_5⟩ := at_T40 HR1.out x5_1 oa oa
        have hw193_5 := hx193_5
        have hw193_4 := hx193_4
        have hw193_3 := hx193_3
        have hw193_2 := hx193_2
        have hw193_1 := hx193_1
        have hw193_0 := hx193_0
        cases e193
        replace hx193_0 := cB HB hx193_0
        replace hx193_1 := cB HB hx193_1
        replace hx193_2 := cB HB hx193_2
        replace hx193_3 := cB HB hx193_3
        replace hx193_4 := cB HB hx193_4
        replace hx193_5 := cB HB hx193_5
        have HR193_3 := Aside0.mk hi193_3
        have HC193_3 := Aside0.mk hl193_3
        clear hi193_3 hl193_3
        have HR193_4 := Aside0.mk hi193_4
        have HC193_4 := Aside0.mk hl193_4
        clear hi193_4 hl193_4
        have HR193_5 := Aside0.mk hi193_5
        have HC193_5 := Aside0.mk hl193_5
        clear hi193_5 hl193_5
        refine st_ 10 (fun w' => w'.cell? (ad192.add ((x5_1).toNat * 6)) = some (.int .i64 ((rd_T40 l0 x5_1).f0)) ∧ w'.cell? ⟨(ad192.add ((x5_1).toNat * 6)).block, (ad192.add ((x5_1).toNat * 6)).off + 1, none⟩ = some (.int .i64 ((rd_T40 l0 x5_1).f1)) ∧ w'.cell? ⟨(ad192.add ((x5_1).toNat * 6)).block, (ad192.add ((x5_1).toNat * 6)).off + 2, none⟩ = some (.int .i64 ((rd_T40 l0 x5_1).f2)) ∧ w'.cell? ⟨(ad192.add ((x5_1).toNat * 6)).block, (ad192.add ((x5_1).toNat * 6)).off + 3, none⟩ = some (.slice A192_3 ((rd_T40 l0 x5_1).f3).length c192_3) ∧ w'.cell? ⟨(ad192.add ((x5_1).toNat * 6)).block, (ad192.add ((x5_1).toNat * 6)).off + 4, none⟩ = some (.slice A192_4 ((rd_T40 l0 x5_1).f4).length c192_4) ∧ w'.cell? ⟨(ad192.add ((x5_1).toNat * 6)).block, (ad192.add ((x5_1).toNat * 6)).off + 5, none⟩ = some (.slice A192_5 ((rd_T40 l0 x5_1).f5).length c192_5) ∧ w'.cell? (ad193.add ((x5_1).toNat * 6)) = some (.int .i64 ((rd_T40 l1 x5_1).f0)) ∧ w'.cell? ⟨(ad193.add ((x5_1).toNat * 6)).block, (ad193.add ((x5_1).toNat * 6)).off + 1, none⟩ = some (.int .i64 ((rd_T40 l1 x5_1).f1)) ∧ w'.cell? ⟨(ad193.add ((x5_1).toNat * 6)).block, (ad193.add ((x5_1).toNat * 6)).off + 2, none⟩ = some (.int .i64 ((rd_T40 l1 x5_1).f2)) ∧ w'.cell? ⟨(ad193.add ((x5_1).toNat * 6)).block, (ad193.add ((x5_1).toNat * 6)).off + 3, none⟩ = some (.slice A193_3 ((rd_T40 l1 x5_1).f3).length c193_3) ∧ w'.cell? ⟨(ad193.add ((x5_1).toNat * 6)).block, (ad193.add ((x5_1).toNat * 6)).off + 4, none⟩ = some (.slice A193_4 ((rd_T40 l1 x5_1).f4).length c193_4) ∧ w'.cell? ⟨(ad193.add ((x5_1).toNat * 6)).block, (ad193.add ((x5_1).toNat * 6)).off + 5, none⟩ = some (.slice A193_5 ((rd_T40 l1 x5_1).f5).length c193_5)) laws_eqInodeS.tab6 laws_eqInodeS.bits6 oH (fun hHeld HT_ HW_ => ?_)
        generalize wr.drew = w9 at HB HR192_3 HR192_4 HR192_5 HR193_3 HR193_4 HR193_5 hx192_0 hx192_1 hx192_2 hx192_3 hx192_4 hx192_5 hx193_0 hx193_1 hx193_2 hx193_3 hx193_4 hx193_5 hHeld ⊢
        refine pu_ 0 17 HT_ ?_
        refine pu_ 1 18 HT_ ?_
        refine pu_ 2 19 HT_ ?_
        refine pu_ 4 21 HT_ ?_
        refine pu_ 5 22 HT_ ?_
        refine pu_ 6 23 HT_ ?_
        refine ta_ 3 20 HT_ HW_ hHeld ?_
        refine ta_ 7 24 HT_ HW_ hHeld ?_
        refine on_ 8 25 HT_ (fun K hK => ?_)
        refine gr_ 25 Try.func14 (laws_eqInode.calls k1 ((rd_T40 l0 x5_1).f0) ((rd_T40 l0 x5_1).f1) ((rd_T40 l0 x5_1).f2) _ _ ((rd_T40 l0 x5_1).f3) _ _ ((rd_T40 l0 x5_1).f4) _ _ ((rd_T40 l0 x5_1).f5) ((rd_T40 l1 x5_1).f0) ((rd_T40 l1 x5_1).f1) ((rd_T40 l1 x5_1).f2) _ _ ((rd_T40 l1 x5_1).f3) _ _ ((rd_T40 l1 x5_1).f4) _ _ ((rd_T40 l1 x5_1).f5) true _ (kC HR192_3) HC192_3.out (kC HR192_4) HC192_4.out (kC HR192_5) HC192_5.out (kC HR193_3) HC193_3.out (kC HR193_4) HC193_4.out (kC HR193_5) HC193_5.out A7.out) ?_
        rintro e w10 ⟨rfl, hb⟩
        refine ⟨_, rfl, ?_⟩
        replace HB := Aside0.mk (below_step oB hb)
        refine hk_ hK 25 oH (fun hHeld => ?_)
        clear hK K
        refine pu_ 9 26 HT_ ?_
        refine dn_ HT_ ?_
        try go_wp2
        go_roundg k1
        case measure => have := HK1.out; omega
        case rel => exact ⟨(wrap64 (x5_1 + 1)), oS, H', ⟨by have := HK1.out; omega⟩, ⟨oB⟩⟩
       ·obtain rfl := Option.some.inj H
        try go_wp2
        replace HB := Aside0.mk (below_drew1 HB.out)
        have p192 : (0 ≤ (x5_1 : Int)) = True := oT
        have q192 : (x5_1 < (l0.length : Int)) = True := oT
        obtain ⟨ad192, A192_3, c192_3, A192_4, c192_4, A192_5, c192_5, e192, hx192_0, hx192_1, hx192_2, hx192_3, hx192_4, hx192_5, hl192_3, hi192_3, hl192_4, hi192_4, hl192_5, hi192_5⟩ := at_T40 HR0.out x5_1 oa oa
        have hw192_5 := hx192_5
        have hw192_4 := hx192_4
        have hw192_3 := hx192_3
        have hw192_2 := hx192_2
        have hw192_1 := hx192_1
        have hw192_0 := hx192_0
        cases e192
        replace hx192_0 := cB HB hx192_0
        replace hx192_1 := cB HB hx192_1
        replace hx192_2 := cB HB hx192_2
        replace hx192_3 := cB HB hx192_3
        replace hx192_4 := cB HB hx192_4
        replace hx192_5 := cB HB hx192_5
        have HR192_3 := Aside0.mk hi192_3
        have HC192_3 := Aside0.mk hl192_3
        clear hi192_3 hl192_3
        have HR192_4 := Aside0.mk hi192_4
        have HC192_4 := Aside0.mk hl192_4
        clear hi192_4 hl192_4
        have HR192_5 := Aside0.mk hi192_5
        have HC192_5 := Aside0.mk hl192_5
        clear hi192_5 hl192_5
        have p193 : (0 ≤ (x5_1 : Int)) = True := oT
        have q193 : (x5_1 < (l1.length : Int)) = True := oT
        obtain ⟨ad193, A193_3, c193_3, A193_4, c193_4, A193_5, c193_5, e193, hx193_0, hx193_1, hx193_2, hx193_3, hx193_4, hx193_5, hl193_3, hi193_3, hl193_4, hi193_4, hl193_5, hi193_5⟩ := at_T40 HR1.out x5_1 oa oa
        have hw193_5 := hx193_5
        have hw193_4 := hx193_4
        have hw193_3 := hx193_3
        have hw193_2 := hx193_2
        have hw193_1 := hx193_1
        have hw193_0 := hx193_0
        cases e193
        replace hx193_0 := cB HB hx193_0
        replace hx193_1 := cB HB hx193_1
        replace hx193_2 := cB HB hx193_2
        replace hx193_3 := cB HB hx193_3
        replace hx193_4 := cB HB hx193_4
        replace hx193_5 := cB HB hx193_5
        have HR193_3 := Aside0.mk hi193_3
        have HC193_3 := Aside0.mk hl193_3
        clear hi193_3 hl193_3
        have HR193_4 := Aside0.mk hi193_4
        have HC193_4 := Aside0.mk hl193_4
        clear hi193_4 hl193_4
        have HR193_5 := Aside0.mk hi193_5
        have HC193_5 := Aside0.mk hl193_5
        clear hi193_5 hl193_5
        refine st_ 10 (fun w' => w'.cell? (ad192.add ((x5_1).toNat * 6)) = some (.int .i64 ((rd_T40 l0 x5_1).f0)) ∧ w'.cell? ⟨(ad192.add ((x5_1).toNat * 6)).block, (ad192.add ((x5_1).toNat * 6)).off + 1, none⟩ = some (.int .i64 ((rd_T40 l0 x5_1).f1)) ∧ w'.cell? ⟨(ad192.add ((x5_1).toNat * 6)).block, (ad192.add ((x5_1).toNat * 6)).off + 2, none⟩ = some (.int .i64 ((rd_T40 l0 x5_1).f2)) ∧ w'.cell? ⟨(ad192.add ((x5_1).toNat * 6)).block, (ad192.add ((x5_1).toNat * 6)).off + 3, none⟩ = some (.slice A192_3 ((rd_T40 l0 x5_1).f3).length c192_3) ∧ w'.cell? ⟨(ad192.add ((x5_1).toNat * 6)).block, (ad192.add ((x5_1).toNat * 6)).off + 4, none⟩ = some (.slice A192_4 ((rd_T40 l0 x5_1).f4).length c192_4) ∧ w'.cell? ⟨(ad192.add ((x5_1).toNat * 6)).block, (ad192.add ((x5_1).toNat * 6)).off + 5, none⟩ = some (.slice A192_5 ((rd_T40 l0 x5_1).f5).length c192_5) ∧ w'.cell? (ad193.add ((x5_1).toNat * 6)) = some (.int .i64 ((rd_T40 l1 x5_1).f0)) ∧ w'.cell? ⟨(ad193.add ((x5_1).toNat * 6)).block, (ad193.add ((x5_1).toNat * 6)).off + 1, none⟩ = some (.int .i64 ((rd_T40 l1 x5_1).f1)) ∧ w'.cell? ⟨(ad193.add ((x5_1).toNat * 6)).block, (ad193.add ((x5_1).toNat * 6)).off + 2, none⟩ = some (.int .i64 ((rd_T40 l1 x5_1).f2)) ∧ w'.cell? ⟨(ad193.add ((x5_1).toNat * 6)).block, (ad193.add ((x5_1).toNat * 6)).off + 3, none⟩ = some (.slice A193_3 ((rd_T40 l1 x5_1).f3).length c193_3) ∧ w'.cell? ⟨(ad193.add ((x5_1).toNat * 6)).block, (ad193.add ((x5_1).toNat * 6)).off + 4, none⟩ = some (.slice A193_4 ((rd_T40 l1 x5_1).f4).length c193_4) ∧ w'.cell? ⟨(ad193.add ((x5_1).toNat * 6)).block, (ad193.add ((x5_1).toNat * 6)).off + 5, none⟩ = some (.slice A193_5 ((rd_T40 l1 x5_1).f5).length c193_5)) laws_eqInodeS.tab6 laws_eqInodeS.bits6 oH (fun hHeld HT_ HW_ => ?_)
        generalize wr.drew = w11 at HB HR192_3 HR192_4 HR192_5 HR193_3 HR193_4 HR193_5 hx192_0 hx192_1 hx192_2 hx192_3 hx192_4 hx192_5 hx193_0 hx193_1 hx193_2 hx193_3 hx193_4 hx193_5 hHeld ⊢
        refine pu_ 0 17 HT_ ?_
        refine pu_ 1 18 HT_ ?_
        refine pu_ 2 19 HT_ ?_
        refine pu_ 4 21 HT_ ?_
        refine pu_ 5 22 HT_ ?_
        refine pu_ 6 23 HT_ ?_
        refine ta_ 3 20 HT_ HW_ hHeld ?_
        refine ta_ 7 24 HT_ HW_ hHeld ?_
        refine on_ 8 25 HT_ (fun K hK => ?_)
        refine gr_ 25 Try.func14 (laws_eqInode.calls k1 ((rd_T40 l0 x5_1).f0) ((rd_T40 l0 x5_1).f1) ((rd_T40 l0 x5_1).f2) _ _ ((rd_T40 l0 x5_1).f3) _ _ ((rd_T40 l0 x5_1).f4) _ _ ((rd_T40 l0 x5_1).f5) ((rd_T40 l1 x5_1).f0) ((rd_T40 l1 x5_1).f1) ((rd_T40 l1 x5_1).f2) _ _ ((rd_T40 l1 x5_1).f3) _ _ ((rd_T40 l1 x5_1).f4) _ _ ((rd_T40 l1 x5_1).f5) false _ (kC HR192_3) HC192_3.out (kC HR192_4) HC192_4.out (kC HR192_5) HC192_5.out (kC HR193_3) HC193_3.out (kC HR193_4) HC193_4.out (kC HR193_5) HC193_5.out A7.out) ?_
        rintro e w12 ⟨rfl, hb⟩
        refine ⟨_, rfl, ?_⟩
        replace HB := Aside0.mk (below_step oB hb)
        refine hk_ hK 25 oH (fun hHeld => ?_)
        clear hK K
        refine pu_ 9 26 HT_ ?_
        refine dn_ HT_ ?_
        try go_wp2
        go_ret
        exact ⟨oE, oB⟩
      ·cases H
     ·cases H
    ·obtain rfl := Option.some.inj H
     go_wp2
     go_ret
     exact ⟨oE, oB⟩
 ·rw [if_neg c3] at H
  have c3b0 : ((l0.length : Int) == (l1.length : Int)) = false := beq_eq_false_iff_ne.mpr c3
  have c3b1 : ((l0.length : Int) != (l1.length : Int)) = true := bne_iff_ne.mpr c3
  have c3b2 : (l0.length == l1.length) = false := by first | simpa using c3 | (simp at c3 ⊢; omega)
  obtain rfl := Option.some.inj H
  go_enter Try.func48, Try.ntmps48
  go_wp2
  go_ret
  exact ⟨oE, oB⟩

/-! ### laws_eqTab: function 13 -/
def laws_eqTab.f (k : Nat) (l0_0 : List (S40)) (a0_1 : Int) (l1_0 : List (S40)) (a1_1 : Int) : Option (Bool) := (laws_eqInodeS.f k l0_0 l1_0).bind fun t197 => (if t197 = true then (if a0_1 = a1_1 then (some true) else (some false)) else (some false))
set_option maxHeartbeats 8000000 in
set_option maxRecDepth 100000 in
theorem laws_eqTab.calls (k : Nat) (A0_0 : Option Addr) (c0_0 : Nat) (l0_0 : List (S40)) (a0_1 : Int) (A1_0 : Option Addr) (c1_0 : Nat) (l1_0 : List (S40)) (a1_1 : Int) (r : Bool) (w : World) (hr0_0 : Kd.C k40 w A0_0 l0_0.length l0_0) (hc0_0 : l0_0.length ≤ c0_0) (hr1_0 : Kd.C k40 w A1_0 l1_0.length l1_0) (hc1_0 : l1_0.length ≤ c1_0) (h : laws_eqTab.f k l0_0 a0_1 l1_0 a1_1 = some r) :
  Calls Try.prog 13 #[.agg #[.slice A0_0 l0_0.length c0_0, .int .i64 a0_1], .agg #[.slice A1_0 l1_0.length c1_0, .int .i64 a1_1]] w fun e w' => e = .returned (.bool r) ∧ Below w.heap.size w w' := by
 have hu34 := Try.underlying34
 have HR0_0 := Aside0.mk hr0_0
 have HC0_0 := Aside0.mk hc0_0
 clear hr0_0 hc0_0
 have HR1_0 := Aside0.mk hr1_0
 have HC1_0 := Aside0.mk hc1_0
 clear hr1_0 hc1_0
 have HB := Aside0.mk (Below.refl w.heap.size w)
 unfold laws_eqTab.f at h
 have H := h
 clear h
 replace H := bA H
 obtain ⟨t197, A3, H⟩ := H
 try dsimp only at H
 replace H := itB H
 rcases H with ⟨rfl, H⟩ | ⟨rfl, H⟩
 ·by_cases c5 : a0_1 = a1_1
  ·rw [if_pos c5] at H
   have c5b0 : (a0_1 == a1_1) = true := beq_iff_eq.mpr c5
   have c5b1 : (a0_1 != a1_1) = false := bne_eq_false_iff_eq.mpr c5
   clear c5
   obtain rfl := Option.some.inj H
   go_enter Try.func13, Try.ntmps13
   go_wp2_with (first | ((with_reducible refine gate_dst (N := 2) rfl ?_); refine bx_ 2 #[.slice A0_0 l0_0.length c0_0, .int .i64 a0_1] 34 ?_; intro gb195 hg w6 hbox hb; have BK195 := Aside0.mk (hbox); have GW195 := gs_ hg; have GE195 := gs_ hg; replace HB := Aside0.mk (below_step oB hb); clear hb hbox hg) | ((with_reducible refine gate_dst (N := 3) rfl ?_); refine bx_ 3 #[.slice A1_0 l1_0.length c1_0, .int .i64 a1_1] 34 ?_; intro gb196 hg w7 hbox hb; have BK196 := Aside0.mk (hbox); have GW196 := gs_ hg; have GE196 := gs_ hg; have NB195_196 := nl_ hg BK195; have NB196_195 := nr_ hg BK195; replace BK195 := kb_ BK195 hb; replace HB := Aside0.mk (below_step oB hb); clear hb hbox hg; have hnb8 := NB195_196.out; have hnc8 := NB196_195.out; obtain ⟨⟨_, _⟩, _, _⟩ := z2 BK195; obtain ⟨⟨_, _⟩, _, _⟩ := z2 BK196) | ((with_reducible refine gate_callee (f := 48) rfl ?_); refine gl_ 9 Try.func48 (laws_eqInodeS.calls k _ _ l0_0 _ _ l1_0 true _ (kC HR0_0) HC0_0.out (kC HR1_0) HC1_0.out A3.out) ?_; rintro e w11 ⟨rfl, hb⟩; refine ⟨_, rfl, ?_⟩; replace BK195 := kb_ BK195 hb; replace BK196 := kb_ BK196 hb; replace HB := Aside0.mk (below_step oB hb); obtain ⟨⟨_, _⟩, _, _⟩ := z2 BK195; obtain ⟨⟨_, _⟩, _, _⟩ := z2 BK196))
   go_ret
   exact ⟨oE, oB⟩
  ·rw [if_neg c5] at H
   have c5b0 : (a0_1 == a1_1) = false := beq_eq_false_iff_ne.mpr c5
   have c5b1 : (a0_1 != a1_1) = true := bne_iff_ne.mpr c5
   obtain rfl := Option.some.inj H
   go_enter Try.func13, Try.ntmps13
   go_wp2_with (first | ((with_reducible refine gate_dst (N := 2) rfl ?_); refine bx_ 2 #[.slice A0_0 l0_0.length c0_0, .int .i64 a0_1] 34 ?_; intro gb195 hg w14 hbox hb; have BK195 := Aside0.mk (hbox); have GW195 := gs_ hg; have GE195 := gs_ hg; replace HB := Aside0.mk (below_step oB hb); clear hb hbox hg) | ((with_reducible refine gate_dst (N := 3) rfl ?_); refine bx_ 3 #[.slice A1_0 l1_0.length c1_0, .int .i64 a1_1] 34 ?_; intro gb196 hg w15 hbox hb; have BK196 := Aside0.mk (hbox); have GW196 := gs_ hg; have GE196 := gs_ hg; have NB195_196 := nl_ hg BK195; have NB196_195 := nr_ hg BK195; replace BK195 := kb_ BK195 hb; replace HB := Aside0.mk (below_step oB hb); clear hb hbox hg; have hnb16 := NB195_196.out; have hnc16 := NB196_195.out; obtain ⟨⟨_, _⟩, _, _⟩ := z2 BK195; obtain ⟨⟨_, _⟩, _, _⟩ := z2 BK196) | ((with_reducible refine gate_callee (f := 48) rfl ?_); refine gl_ 9 Try.func48 (laws_eqInodeS.calls k _ _ l0_0 _ _ l1_0 true _ (kC HR0_0) HC0_0.out (kC HR1_0) HC1_0.out A3.out) ?_; rintro e w19 ⟨rfl, hb⟩; refine ⟨_, rfl, ?_⟩; replace BK195 := kb_ BK195 hb; replace BK196 := kb_ BK196 hb; replace HB := Aside0.mk (below_step oB hb); obtain ⟨⟨_, _⟩, _, _⟩ := z2 BK195; obtain ⟨⟨_, _⟩, _, _⟩ := z2 BK196))
   go_ret
   exact ⟨oE, oB⟩
 ·obtain rfl := Option.some.inj H
  go_enter Try.func13, Try.ntmps13
  go_wp2_with (first | ((with_reducible refine gate_dst (N := 2) rfl ?_); refine bx_ 2 #[.slice A0_0 l0_0.length c0_0, .int .i64 a0_1] 34 ?_; intro gb195 hg w22 hbox hb; have BK195 := Aside0.mk (hbox); have GW195 := gs_ hg; have GE195 := gs_ hg; replace HB := Aside0.mk (below_step oB hb); clear hb hbox hg) | ((with_reducible refine gate_dst (N := 3) rfl ?_); refine bx_ 3 #[.slice A1_0 l1_0.length c1_0, .int .i64 a1_1] 34 ?_; intro gb196 hg w23 hbox hb; have BK196 := Aside0.mk (hbox); have GW196 := gs_ hg; have GE196 := gs_ hg; have NB195_196 := nl_ hg BK195; have NB196_195 := nr_ hg BK195; replace BK195 := kb_ BK195 hb; replace HB := Aside0.mk (below_step oB hb); clear hb hbox hg; have hnb24 := NB195_196.out; have hnc24 := NB196_195.out; obtain ⟨⟨_, _⟩, _, _⟩ := z2 BK195; obtain ⟨⟨_, _⟩, _, _⟩ := z2 BK196) | ((with_reducible refine gate_callee (f := 48) rfl ?_); refine gl_ 9 Try.func48 (laws_eqInodeS.calls k _ _ l0_0 _ _ l1_0 false _ (kC HR0_0) HC0_0.out (kC HR1_0) HC1_0.out A3.out) ?_; rintro e w27 ⟨rfl, hb⟩; refine ⟨_, rfl, ?_⟩; replace BK195 := kb_ BK195 hb; replace BK196 := kb_ BK196 hb; replace HB := Aside0.mk (below_step oB hb)))
  go_ret
  exact ⟨oE, oB⟩

/-! ### laws_markByteS: function 53 -/
def laws_markByteS.l0 : Nat → List Int → Int → Int → Option (Int × List Int)
 | 0, _, _, _ => none
 | k + 1, x0, x1, x5 => if x5 < (x0.length : Int) then (if 0 ≤ x5 then (laws_markByteS.l0 k (x0.set (x5 : Int).toNat ((x1) % 256)) (wrap64 (x1 + 1)) (wrap64 (x5 + 1))) else (none)) else (some (x1, x0))
def laws_markByteS.f (k : Nat) (l0 : List Int) (a1 : Int) : Option (Int × List Int) := laws_markByteS.l0 k l0 a1 0
set_option maxHeartbeats 8000000 in
set_option maxRecDepth 100000 in
theorem laws_markByteS.calls (k : Nat) (P0_ : Nat → Prop) (u9000_ : Value) (l0 : List Int) (a1 : Int) (r1 : Int) (r2 : List Int) (w0 w : World) (hB : Below w0.heap.size w0 w) (ho0 : Kd.R (Kd.int .u8) 5 w w0.heap.size P0_ u9000_ l0) (h : laws_markByteS.f k l0 a1 = some (r1, r2)) :
  Calls Try.prog 53 #[u9000_, .int .i64 a1] w fun e w' => e = .returned (.int .i64 r1) ∧ Kd.R (Kd.int .u8) 5 w' w0.heap.size (fun k_ => (P0_ k_ ∨ w.heap.size ≤ k_)) u9000_ r2 ∧ Below w0.heap.size w0 w' ∧ Kept w w' (fun k_ => P0_ k_) := by
 have HO0 := Aside0.mk (show Kd.R (Kd.int .u8) 5 w w0.heap.size (fun k_ => (P0_ k_ ∨ w.heap.size ≤ k_)) u9000_ l0 from Kd.R_mono ho0 (fun k_ hk => (.inl hk)))
 have HK := Aside0.mk (Kept.refl w (fun k_ => P0_ k_))
 have HW0 := Aside0.mk hB.size
 have HB := Aside0.mk hB
 clear hB
 unfold laws_markByteS.f at h
 have H := h
 clear h
 have H' := Aside0.mk H
 clear H
 go_enter Try.func53, Try.ntmps53
 go_wp2
 go_loopg [1, 5] k (fun kq v1 v5 w' => ∃ (x0_1 : List Int) (x1_1 : Int) (x5_1 : Int), v1 = .int .i64 x1_1 ∧ v5 = .int .i64 x5_1 ∧ Aside0 (laws_markByteS.l0 kq x0_1 x1_1 x5_1 = some (r1, r2)) ∧ Aside0 (kq ≤ k) ∧ Aside0 (Kd.R (Kd.int .u8) 5 w' w0.heap.size (fun k_ => (P0_ k_ ∨ w.heap.size ≤ k_)) u9000_ x0_1) ∧ Aside0 (Kept w w' (fun k_ => P0_ k_)) ∧ Aside0 (Below w0.heap.size w0 w'))
 case atStart => exact ⟨(l0), (a1), (0), oS, oS, H', ⟨Nat.le_refl _⟩, ⟨oR HO0⟩, ⟨oK⟩, ⟨oB⟩⟩
 case round =>
  clear H'
  obtain ⟨x0_1, x1_1, x5_1, rfl, rfl, HA, HK1, HO_0, HK, HB⟩ := hrel
  cases gk with
  | zero => exact absurd HA.out (by simp [laws_markByteS.l0])
  | succ k1 =>
   have H := HA.out
   clear HA
   simp only [laws_markByteS.l0] at H
   replace H := itD H
   rcases H with ⟨c3b0, H⟩ | ⟨c3b0, H⟩
   ·replace H := itD H
    rcases H with ⟨c4b0, H⟩ | ⟨c4b0, H⟩
    ·obtain ⟨y198, hy198⟩ : ∃ y_ : List Int, y_ = (x0_1.set (x5_1 : Int).toNat ((x1_1) % 256)) := ⟨_, rfl⟩
     replace H : (laws_markByteS.l0 k1 y198 (wrap64 (x1_1 + 1)) (wrap64 (x5_1 + 1))) = some (r1, r2) := by first | (rw [hy198]; with_reducible exact H) | (have H2_ := (Option.bind_some _ _).symm.trans H; rw [hy198]; with_reducible exact H2_) | (have H2_ := (Option.bind_some _ _).symm.trans H; with_reducible exact H2_) | with_reducible exact H | (rw [hy198]; exact H) | exact H
     have Ny198 := Aside0.mk hy198
     clear hy198
     have H' := Aside0.mk H
     clear H
     obtain ⟨Ao6, co6, eo6⟩ := Kd.R_slice HO_0.out
     subst eo6
     have p5 : 0 ≤ (x5_1 : Int) := oa
     have q5 : (x5_1 : Int) < ((x0_1.length : Int) : Int) := oa
     obtain ⟨go5, co5, eo5, gb5, gl5, cl5, HG5⟩ := Kd.R_form HO_0.out (by omega)
     (first | cases eo5 | (injection eo5 with ea_ en_ ec_; (first | subst ea_ | (injection ea_ with ea_; subst ea_)); subst ec_; clear en_))
     have GB5 := Aside0.mk gb5
     have GG5 := Aside0.mk HG5
     clear gb5 gl5 HG5
     have HMgo5 := Aside0.mk (show (P0_ go5 ∨ w.heap.size ≤ go5) from (HO_0.out.1 _ rfl))
     obtain ⟨hx5_0, hf5_0⟩ := Kd.R_celln 0 HO_0.out (x5_1 : Int) p5 q5
     replace p5 := eq_true p5
     replace q5 := eq_true q5
     have HP7 := Kd.R_putg HO_0.out (x5_1 : Int) ((x1_1) % 256)
     go_wp2_with (first | ((with_reducible refine gate_store (t := 5) (p := 16) rfl ?_); refine store_event (t := 5) (p := 16) (v := ?vo_w8) (w1 := (wr.setCell ⟨go5, (x5_1 : Int).toNat, none⟩ (.int .u8 ((x1_1) % 256)))) ?hg ?ho ?hn ?hr ?_; (case ho => rfl); (case hg => rfl); (case hn => rfl); (case hr => first | (go_simp; done) | (go_simp; rfl)); intro w8 hw; have hg : wr.grownBy w8 (some go5) := (by rw [hw]; exact HP7.2); have hp_ : Kd.R (Kd.int .u8) 5 w8 w0.heap.size (fun k_ => (P0_ k_ ∨ w.heap.size ≤ k_)) (.slice (some ⟨go5, 0, none⟩) x0_1.length co6) y198 := (by rw [hw, Ny198.out]; exact HP7.1); clear HP7; replace HO_0 := Aside0.mk (hp_); replace HK := Aside0.mk (Kept.of_grown (S := (fun k_ => P0_ k_)) hg oK (fun k_ e_ => (HO_0.out.1 k_ e_))); replace HB := Aside0.mk ((by rw [hw]; exact below_set (HB.out) GB5.out : Below w0.heap.size w0 w8)); clear hg hw hp_))
     go_roundg k1
     case measure => have := HK1.out; omega
     case rel => exact ⟨(y198), (wrap64 (x1_1 + 1)), (wrap64 (x5_1 + 1)), oS, oS, H', ⟨by have := HK1.out; omega⟩, ⟨oR HO_0⟩, ⟨oK⟩, ⟨oB⟩⟩
    ·cases H
   ·simp only [Option.some.injEq, Prod.mk.injEq] at H
    obtain ⟨rfl, rfl⟩ := H
    obtain ⟨Ao9, co9, eo9⟩ := Kd.R_slice HO_0.out
    subst eo9
    go_wp2
    go_ret
    exact ⟨oE, oR HO_0, oB, oK⟩

/-! ### laws_markText: function 85 -/
def laws_markText.l0 : Nat → Int → ByteArray → Option (ByteArray)
 | 0, _, _ => none
 | k + 1, x0, x3 => if x0 > 0 then ((some (([(wrap64 (48 + (Int.tmod x0 10))) % 256] : List Int) : List Int)).bind fun y199 => (if (strOfNums y199).size + x3.size ≤ 9223372036854775807 then (laws_markText.l0 k (wrap64 (Int.tdiv x0 10)) ((strOfNums y199) ++ x3)) else (none))) else (if 1 + x3.size ≤ 9223372036854775807 then (some ((⟨#[109]⟩ : ByteArray) ++ x3)) else (none))
def laws_markText.f (k : Nat) (a0 : Int) : Option (ByteArray) := if a0 ≤ 0 then (some (⟨#[109, 48]⟩ : ByteArray)) else (laws_markText.l0 k a0 (⟨#[]⟩ : ByteArray))
set_option maxHeartbeats 8000000 in
set_option maxRecDepth 100000 in
theorem laws_markText.calls (k : Nat) (a0 : Int) (r : ByteArray) (w : World) (h : laws_markText.f k a0 = some r) :
  Calls Try.prog 85 #[.int .i64 a0] w fun e w' => e = .returned (.string r) ∧ Below w.heap.size w w' := by
 have HB := Aside0.mk (Below.refl w.heap.size w)
 unfold laws_markText.f at h
 have H := h
 clear h
 replace H := itD H
 rcases H with ⟨c2b0, H⟩ | ⟨c2b0, H⟩
 ·obtain rfl := Option.some.inj H
  go_enter Try.func85, Try.ntmps85
  go_wp2
  go_ret
  exact ⟨oE, oB⟩
 ·have H' := Aside0.mk H
  clear H
  go_enter Try.func85, Try.ntmps85
  go_wp2
  go_loopg [0, 3] k (fun kq v0 v3 w' => ∃ (x0_1 : Int) (x3_1 : ByteArray), v0 = .int .i64 x0_1 ∧ v3 = .string x3_1 ∧ Aside0 (laws_markText.l0 kq x0_1 x3_1 = some r) ∧ Aside0 (kq ≤ k) ∧ Aside0 (Below w.heap.size w w'))
  case atStart => exact ⟨(a0), ((⟨#[]⟩ : ByteArray)), oS, oS, H', ⟨Nat.le_refl _⟩, ⟨oB⟩⟩
  case round =>
   clear H'
   try clear c2b0
   obtain ⟨x0_1, x3_1, rfl, rfl, HA, HK1, HB⟩ := hrel
   cases gk with
   | zero => exact absurd HA.out (by simp [laws_markText.l0])
   | succ k1 =>
    have H := HA.out
    clear HA
    simp only [laws_markText.l0] at H
    replace H := itG H
    rcases H with ⟨c3b0, H⟩ | ⟨c3b0, H⟩
    ·obtain ⟨y199, hy199⟩ : ∃ y_ : List Int, y_ = (([(wrap64 (48 + (Int.tmod x0_1 10))) % 256] : List Int)) := ⟨_, rfl⟩
     replace H : (if (strOfNums y199).size + x3_1.size ≤ 9223372036854775807 then (laws_markText.l0 k1 (wrap64 (Int.tdiv x0_1 10)) ((strOfNums y199) ++ x3_1)) else (none)) = some r := by first | (rw [hy199]; with_reducible exact H) | (have H2_ := (Option.bind_some _ _).symm.trans H; rw [hy199]; with_reducible exact H2_) | (have H2_ := (Option.bind_some _ _).symm.trans H; with_reducible exact H2_) | with_reducible exact H | (rw [hy199]; exact H) | exact H
     have Ny199 := Aside0.mk hy199
     clear hy199
     by_cases c4 : (strOfNums y199).size + x3_1.size ≤ 9223372036854775807
     ·rw [if_pos c4] at H
      have c4b0 := eq_true c4
      have c4b1 : decide ((strOfNums y199).size + x3_1.size ≤ 9223372036854775807) = true := decide_eq_true c4
      try have c4b2 : (9223372036854775807 < (strOfNums y199).size + x3_1.size) = False := eq_false (Nat.not_lt.2 c4)
      have H' := Aside0.mk H
      clear H
      go_wp2_with (first | ((with_reducible refine gate_dst (N := 12) rfl ?_); refine Kd.R_lit (Kd.int .u8) _ 5 ?hg (N := 12) ?hd (xs := ([(wrap64 (48 + (Int.tmod x0_1 10))) % 256] : List Int)) (inner := [.int .u8 ((wrap64 (48 + (Int.tmod x0_1 10))) % 256)]) (ok := fun _ => True) (okp := fun _ => True) ?hr ?hp (fun _ hk => hk) trivial (Below.refl _ _) (Nat.le_refl _) (by simp) ?_; (case hd => rfl); (case hg => rfl); (case hr => first | (go_simp; done) | (go_simp; rfl)); (case hp => exact (Reps.one (show Kd.M (Kd.int .u8) _ _ _ ((wrap64 (48 + (Int.tmod x0_1 10))) % 256) [.int .u8 ((wrap64 (48 + (Int.tmod x0_1 10))) % 256)] from rfl) (Reps.none _ _))); intro v200 w5 ho6 hb hg_ hnew_; clear hg_ hnew_; (first | rw [← Ny199.out] at ho6 | (simp only [Int.reduceToNat] at ho6; rw [← Ny199.out] at ho6)); have HO201 := Aside0.mk (Kd.R_lower ho6 (below_size oB)); replace HB := Aside0.mk (below_step oB hb); clear hb ho6; have hcv7 := own_string (P := Try.prog) Try.underlying25 Try.underlying5 Try.underlying9 (Kd.own_of_R HO201.out)))
      go_roundg k1
      case measure => have := HK1.out; omega
      case rel => exact ⟨(wrap64 (Int.tdiv x0_1 10)), ((strOfNums y199) ++ x3_1), oS, oS, H', ⟨by have := HK1.out; omega⟩, ⟨oB⟩⟩
     ·rw [if_neg c4] at H
      exact absurd H (by simp)
    ·by_cases c8 : 1 + x3_1.size ≤ 9223372036854775807
     ·rw [if_pos c8] at H
      have c8b0 := eq_true c8
      have c8b1 : decide (1 + x3_1.size ≤ 9223372036854775807) = true := decide_eq_true c8
      try have c8b2 : (9223372036854775807 < 1 + x3_1.size) = False := eq_false (Nat.not_lt.2 c8)
      obtain rfl := Option.some.inj H
      go_wp2
      go_ret
      exact ⟨oE, oB⟩
     ·rw [if_neg c8] at H
      exact absurd H (by simp)

/-! ### laws_markEntS: function 54 -/
def laws_markEntS.l0 : Nat → List (S82) → Int → Int → Option (Int × (List (S82)))
 | 0, _, _, _ => none
 | k + 1, x0, x1, x5 => if x5 < (x0.length : Int) then ((laws_markText.f k x1).bind fun t202 => (if 0 ≤ x5 then ((some (x0.set (x5 : Int).toNat (⟨t202, (rd_T82 x0 x5).f1⟩ : S82) : List (S82))).bind fun y203 => (laws_markEntS.l0 k (y203.set (x5 : Int).toNat (⟨(rd_T82 y203 x5).f0, wrap64 (x1 + 1)⟩ : S82)) (wrap64 ((wrap64 (x1 + 1)) + 1)) (wrap64 (x5 + 1)))) else (none))) else (some (x1, x0))
def laws_markEntS.f (k : Nat) (l0 : List (S82)) (a1 : Int) : Option (Int × (List (S82))) := laws_markEntS.l0 k l0 a1 0
set_option maxHeartbeats 8000000 in
set_option maxRecDepth 100000 in
theorem laws_markEntS.calls (k : Nat) (P0_ : Nat → Prop) (u9000_ : Value) (l0 : List (S82)) (a1 : Int) (r1 : Int) (r2 : List (S82)) (w0 w : World) (hB : Below w0.heap.size w0 w) (ho0 : Kd.R k82 82 w w0.heap.size P0_ u9000_ l0) (h : laws_markEntS.f k l0 a1 = some (r1, r2)) :
  Calls Try.prog 54 #[u9000_, .int .i64 a1] w fun e w' => e = .returned (.int .i64 r1) ∧ Kd.R k82 82 w' w0.heap.size (fun k_ => (P0_ k_ ∨ w.heap.size ≤ k_)) u9000_ r2 ∧ Below w0.heap.size w0 w' ∧ Kept w w' (fun k_ => P0_ k_) := by
 have HO0 := Aside0.mk (show Kd.R k82 82 w w0.heap.size (fun k_ => (P0_ k_ ∨ w.heap.size ≤ k_)) u9000_ l0 from Kd.R_mono ho0 (fun k_ hk => (.inl hk)))
 have HK := Aside0.mk (Kept.refl w (fun k_ => P0_ k_))
 have HW0 := Aside0.mk hB.size
 have HB := Aside0.mk hB
 clear hB
 unfold laws_markEntS.f at h
 have H := h
 clear h
 have H' := Aside0.mk H
 clear H
 go_enter Try.func54, Try.ntmps54
 go_wp2
 go_loopg [1, 5] k (fun kq v1 v5 w' => ∃ (x0_1 : List (S82)) (x1_1 : Int) (x5_1 : Int), v1 = .int .i64 x1_1 ∧ v5 = .int .i64 x5_1 ∧ Aside0 (laws_markEntS.l0 kq x0_1 x1_1 x5_1 = some (r1, r2)) ∧ Aside0 (kq ≤ k) ∧ Aside0 (Kd.R k82 82 w' w0.heap.size (fun k_ => (P0_ k_ ∨ w.heap.size ≤ k_)) u9000_ x0_1) ∧ Aside0 (Kept w w' (fun k_ => P0_ k_)) ∧ Aside0 (Below w0.heap.size w0 w'))
 case atStart => exact ⟨(l0), (a1), (0), oS, oS, H', ⟨Nat.le_refl _⟩, ⟨oR HO0⟩, ⟨oK⟩, ⟨oB⟩⟩
 case round =>
  clear H'
  obtain ⟨x0_1, x1_1, x5_1, rfl, rfl, HA, HK1, HO_0, HK, HB⟩ := hrel
  cases gk with
  | zero => exact absurd HA.out (by simp [laws_markEntS.l0])
  | succ k1 =>
   have H := HA.out
   clear HA
   simp only [laws_markEntS.l0] at H
   replace H := itD H
   rcases H with ⟨c3b0, H⟩ | ⟨c3b0, H⟩
   ·replace H := bA H
    obtain ⟨t202, A4, H⟩ := H
    try dsimp only at H
    replace H := itD H
    rcases H with ⟨c5b0, H⟩ | ⟨c5b0, H⟩
    ·obtain ⟨y203, hy203⟩ : ∃ y_ : List (S82), y_ = (x0_1.set (x5_1 : Int).toNat (⟨t202, (rd_T82 x0_1 x5_1).f1⟩ : S82)) := ⟨_, rfl⟩
     replace H : (laws_markEntS.l0 k1 (y203.set (x5_1 : Int).toNat (⟨(rd_T82 y203 x5_1).f0, wrap64 (x1_1 + 1)⟩ : S82)) (wrap64 ((wrap64 (x1_1 + 1)) + 1)) (wrap64 (x5_1 + 1))) = some (r1, r2) := by first | (rw [hy203]; with_reducible exact H) | (have H2_ := (Option.bind_some _ _).symm.trans H; rw [hy203]; with_reducible exact H2_) | (have H2_ := (Option.bind_some _ _).symm.trans H; with_reducible exact H2_) | with_reducible exact H | (rw [hy203]; exact H) | exact H
     have Ny203 := Aside0.mk hy203
     clear hy203
     obtain ⟨y204, hy204⟩ : ∃ y_ : List (S82), y_ = (y203.set (x5_1 : Int).toNat (⟨(rd_T82 y203 x5_1).f0, wrap64 (x1_1 + 1)⟩ : S82)) := ⟨_, rfl⟩
     replace H : (laws_markEntS.l0 k1 y204 (wrap64 ((wrap64 (x1_1 + 1)) + 1)) (wrap64 (x5_1 + 1))) = some (r1, r2) := by first | (rw [hy204]; with_reducible exact H) | (have H2_ := (Option.bind_some _ _).symm.trans H; rw [hy204]; with_reducible exact H2_) | (have H2_ := (Option.bind_some _ _).symm.trans H; with_reducible exact H2_) | with_reducible exact H | (rw [hy204]; exact H) | exact H
     have Ny204 := Aside0.mk hy204
     clear hy204
     have H' := Aside0.mk H
     clear H
     obtain ⟨Ao8, co8, eo8⟩ := Kd.R_slice HO_0.out
     subst eo8
     go_wp2_with (first | ((with_reducible refine gate_callee (f := 85) rfl ?_); refine gl_ 15 Try.func85 (laws_markText.calls k1 x1_1 t202 _ A4.out) ?_; rintro e w9 ⟨rfl, hb⟩; refine ⟨_, rfl, ?_⟩; replace HO_0 := kr_ HO_0 hb; replace HK := Aside0.mk (Kept.below (S := (fun k_ => P0_ k_)) oK hb); replace HB := Aside0.mk (below_step oB hb); (try clear hk); have p6 : 0 ≤ (x5_1 : Int) := oa; have q6 : (x5_1 : Int) < ((x0_1.length : Int) : Int) := oa; obtain ⟨go6, co6, eo6, gb6, gl6, cl6, HG6⟩ := Kd.R_form HO_0.out (by omega); (first | cases eo6 | (injection eo6 with ea_ en_ ec_; (first | subst ea_ | (injection ea_ with ea_; subst ea_)); subst ec_; clear en_)); have GB6 := Aside0.mk gb6; have GG6 := Aside0.mk HG6; clear gb6 gl6 HG6; have HMgo6 := Aside0.mk (show (P0_ go6 ∨ w.heap.size ≤ go6) from (HO_0.out.1 _ rfl)); obtain ⟨ce6, hcl6, hM6, hcc6, hfr6⟩ := Kd.R_elem HO_0.out z82 (x5_1 : Int) p6 q6; obtain rfl := k82_openM hM6; have hx6_0 : w9.cell? ⟨go6, (x5_1 : Int).toNat * 2, none⟩ = some (.string ((rd_T82 x0_1 x5_1).f0)) := hcc6 0 _ rfl; have hx6_1 : w9.cell? ⟨go6, (x5_1 : Int).toNat * 2 + 1, none⟩ = some (.int .i64 ((rd_T82 x0_1 x5_1).f1)) := hcc6 1 _ rfl; have hf6_0 : w9.frozen? ⟨go6, (x5_1 : Int).toNat * 2, none⟩ = false := hfr6 0; have hf6_1 : w9.frozen? ⟨go6, (x5_1 : Int).toNat * 2 + 1, none⟩ = false := hfr6 1; clear hcl6 hcc6 hfr6 hM6; replace p6 := eq_true p6; replace q6 := eq_true q6; have HX10 := Aside0.mk (show Kd.R k82 82 w9 w0.heap.size (fun k_ => (P0_ k_ ∨ w.heap.size ≤ k_)) (.slice (some ⟨go6, 0, none⟩) x0_1.length co8) x0_1 from (oR HO_0)); obtain ⟨ce10, hcl10, hM10, hcc10, hfr10⟩ := Kd.R_elem HX10.out z82 (x5_1 : Int) oa (by have h_ : (x5_1 : Int) < ((x0_1.length : Int) : Int) := oa; first | exact h_ | (have e_ := (Kd.R_reads' HO_0.out).1; omega) | simpa using h_); obtain rfl := k82_openM hM10; have HP10 := Kd.R_seg HX10.out (x5_1 : Int) oa (by have h_ : (x5_1 : Int) < ((x0_1.length : Int) : Int) := oa; first | exact h_ | (have e_ := (Kd.R_reads' HO_0.out).1; omega) | simpa using h_) (seg := [.string t202]) (j := 0) hcl10 hcc10 (show 1 ≤ 2 from by decide) (x' := (⟨t202, (rd_T82 x0_1 x5_1).f1⟩ : S82)) (k82_mkM _ _ _ (⟨t202, (rd_T82 x0_1 x5_1).f1⟩ : S82) ) (fun _ hk => hk); have hx10_0 := hcc10 0 _ rfl; (try simp only [show (k82).sz = 2 from rfl, Nat.mul_one, Nat.add_zero] at hx10_0); have hf10_0 := hfr10 0; (try simp only [show (k82).sz = 2 from rfl, Nat.mul_one, Nat.add_zero] at hf10_0); clear hcl10 hcc10 hfr10 hM10) | ((with_reducible refine gate_store (t := 9) (p := 17) rfl ?_); refine store_event (t := 9) (p := 17) (v := ?vo_w11) (w1 := (w9.setCell ⟨go6, (x5_1 : Int).toNat * 2, none⟩ (.string t202))) ?hg ?ho ?hn ?hr ?_; (case ho => rfl); (case hg => rfl); (case hn => rfl); (case hr => first | (go_simp; done) | (go_simp; rfl)); intro w11 hw; have hg : w9.grownBy w11 (some go6) := (by rw [hw]; exact HP10.2); have hp_ : Kd.R k82 82 w11 w0.heap.size (fun k_ => (P0_ k_ ∨ w.heap.size ≤ k_)) (.slice (some ⟨go6, 0, none⟩) x0_1.length co8) y203 := (by rw [hw, Ny203.out]; exact HP10.1); clear HP10; replace HO_0 := Aside0.mk (hp_); replace HK := Aside0.mk (Kept.of_grown (S := (fun k_ => P0_ k_)) hg oK (fun k_ e_ => (HO_0.out.1 k_ e_))); replace HB := Aside0.mk ((by rw [hw]; exact below_set (HB.out) GB6.out : Below w0.heap.size w0 w11)); clear hg hw hp_; have p7 : (0 ≤ (x5_1 : Int)) = True := oT; have q7 : ((x5_1 : Int) < ((x0_1.length : Int) : Int)) = True := oT; obtain ⟨ce7, hcl7, hM7, hcc7, hfr7⟩ := Kd.R_elem HO_0.out z82 (x5_1 : Int) oa oa; obtain rfl := k82_openM hM7; have hx7_0 : w11.cell? ⟨go6, (x5_1 : Int).toNat * 2, none⟩ = some (.string ((rd_T82 y203 x5_1).f0)) := hcc7 0 _ rfl; have hx7_1 : w11.cell? ⟨go6, (x5_1 : Int).toNat * 2 + 1, none⟩ = some (.int .i64 ((rd_T82 y203 x5_1).f1)) := hcc7 1 _ rfl; have hf7_0 : w11.frozen? ⟨go6, (x5_1 : Int).toNat * 2, none⟩ = false := hfr7 0; have hf7_1 : w11.frozen? ⟨go6, (x5_1 : Int).toNat * 2 + 1, none⟩ = false := hfr7 1; clear hcl7 hcc7 hfr7 hM7; have HX12 := Aside0.mk (show Kd.R k82 82 w11 w0.heap.size (fun k_ => (P0_ k_ ∨ w.heap.size ≤ k_)) (.slice (some ⟨go6, 0, none⟩) x0_1.length co8) y203 from (oR HO_0)); obtain ⟨ce12, hcl12, hM12, hcc12, hfr12⟩ := Kd.R_elem HX12.out z82 (x5_1 : Int) oa (by have h_ : (x5_1 : Int) < ((x0_1.length : Int) : Int) := oa; first | exact h_ | (have e_ := (Kd.R_reads' HO_0.out).1; omega) | simpa using h_); obtain rfl := k82_openM hM12; have HP12 := Kd.R_seg HX12.out (x5_1 : Int) oa (by have h_ : (x5_1 : Int) < ((x0_1.length : Int) : Int) := oa; first | exact h_ | (have e_ := (Kd.R_reads' HO_0.out).1; omega) | simpa using h_) (seg := [.int .i64 (wrap64 (x1_1 + 1))]) (j := 1) hcl12 hcc12 (show 2 ≤ 2 from by decide) (x' := (⟨(rd_T82 y203 x5_1).f0, wrap64 (x1_1 + 1)⟩ : S82)) (k82_mkM _ _ _ (⟨(rd_T82 y203 x5_1).f0, wrap64 (x1_1 + 1)⟩ : S82) ) (fun _ hk => hk); have hx12_1 := hcc12 1 _ rfl; (try simp only [show (k82).sz = 2 from rfl, Nat.mul_one, Nat.add_zero] at hx12_1); have hf12_1 := hfr12 1; (try simp only [show (k82).sz = 2 from rfl, Nat.mul_one, Nat.add_zero] at hf12_1); clear hcl12 hcc12 hfr12 hM12) | ((with_reducible refine gate_store (t := 3) (p := 24) rfl ?_); refine store_event (t := 3) (p := 24) (v := ?vo_w13) (w1 := (w11.setCell ⟨go6, (x5_1 : Int).toNat * 2 + 1, none⟩ (.int .i64 (wrap64 (x1_1 + 1))))) ?hg ?ho ?hn ?hr ?_; (case ho => rfl); (case hg => rfl); (case hn => rfl); (case hr => first | (go_simp; done) | (go_simp; rfl)); intro w13 hw; have hg : w11.grownBy w13 (some go6) := (by rw [hw]; exact HP12.2); have hp_ : Kd.R k82 82 w13 w0.heap.size (fun k_ => (P0_ k_ ∨ w.heap.size ≤ k_)) (.slice (some ⟨go6, 0, none⟩) x0_1.length co8) y204 := (by rw [hw, Ny204.out]; exact HP12.1); clear HP12; replace HO_0 := Aside0.mk (hp_); replace HK := Aside0.mk (Kept.of_grown (S := (fun k_ => P0_ k_)) hg oK (fun k_ e_ => (HO_0.out.1 k_ e_))); replace HB := Aside0.mk ((by rw [hw]; exact below_set (HB.out) GB6.out : Below w0.heap.size w0 w13)); clear hg hw hp_))
     go_roundg k1
     case measure => have := HK1.out; omega
     case rel => exact ⟨(y204), (wrap64 ((wrap64 (x1_1 + 1)) + 1)), (wrap64 (x5_1 + 1)), oS, oS, H', ⟨by have := HK1.out; omega⟩, ⟨oR HO_0⟩, ⟨oK⟩, ⟨oB⟩⟩
    ·cases H
   ·simp only [Option.some.injEq, Prod.mk.injEq] at H
    obtain ⟨rfl, rfl⟩ := H
    obtain ⟨Ao14, co14, eo14⟩ := Kd.R_slice HO_0.out
    subst eo14
    go_wp2
    go_ret
    exact ⟨oE, oR HO_0, oB, oK⟩

/-! ### laws_markAttrS: function 55 -/
def laws_markAttrS.l0 : Nat → List (S90) → Int → Int → Option (Int × (List (S90)))
 | 0, _, _, _ => none
 | k + 1, x0, x1, x5 => if x5 < (x0.length : Int) then ((laws_markText.f k x1).bind fun t205 => (if 0 ≤ x5 then ((some (x0.set (x5 : Int).toNat (⟨t205, (rd_T90 x0 x5).f1⟩ : S90) : List (S90))).bind fun y206 => ((laws_markText.f k (wrap64 (x1 + 1))).bind fun t207 => (laws_markAttrS.l0 k (y206.set (x5 : Int).toNat (⟨(rd_T90 y206 x5).f0, t207⟩ : S90)) (wrap64 ((wrap64 (x1 + 1)) + 1)) (wrap64 (x5 + 1))))) else (none))) else (some (x1, x0))
def laws_markAttrS.f (k : Nat) (l0 : List (S90)) (a1 : Int) : Option (Int × (List (S90))) := laws_markAttrS.l0 k l0 a1 0
set_option maxHeartbeats 8000000 in
set_option maxRecDepth 100000 in
theorem laws_markAttrS.calls (k : Nat) (P0_ : Nat → Prop) (u9000_ : Value) (l0 : List (S90)) (a1 : Int) (r1 : Int) (r2 : List (S90)) (w0 w : World) (hB : Below w0.heap.size w0 w) (ho0 : Kd.R k90 90 w w0.heap.size P0_ u9000_ l0) (h : laws_markAttrS.f k l0 a1 = some (r1, r2)) :
  Calls Try.prog 55 #[u9000_, .int .i64 a1] w fun e w' => e = .returned (.int .i64 r1) ∧ Kd.R k90 90 w' w0.heap.size (fun k_ => (P0_ k_ ∨ w.heap.size ≤ k_)) u9000_ r2 ∧ Below w0.heap.size w0 w' ∧ Kept w w' (fun k_ => P0_ k_) := by
 have HO0 := Aside0.mk (show Kd.R k90 90 w w0.heap.size (fun k_ => (P0_ k_ ∨ w.heap.size ≤ k_)) u9000_ l0 from Kd.R_mono ho0 (fun k_ hk => (.inl hk)))
 have HK := Aside0.mk (Kept.refl w (fun k_ => P0_ k_))
 have HW0 := Aside0.mk hB.size
 have HB := Aside0.mk hB
 clear hB
 unfold laws_markAttrS.f at h
 have H := h
 clear h
 have H' := Aside0.mk H
 clear H
 go_enter Try.func55, Try.ntmps55
 go_wp2
 go_loopg [1, 5] k (fun kq v1 v5 w' => ∃ (x0_1 : List (S90)) (x1_1 : Int) (x5_1 : Int), v1 = .int .i64 x1_1 ∧ v5 = .int .i64 x5_1 ∧ Aside0 (laws_markAttrS.l0 kq x0_1 x1_1 x5_1 = some (r1, r2)) ∧ Aside0 (kq ≤ k) ∧ Aside0 (Kd.R k90 90 w' w0.heap.size (fun k_ => (P0_ k_ ∨ w.heap.size ≤ k_)) u9000_ x0_1) ∧ Aside0 (Kept w w' (fun k_ => P0_ k_)) ∧ Aside0 (Below w0.heap.size w0 w'))
 case atStart => exact ⟨(l0), (a1), (0), oS, oS, H', ⟨Nat.le_refl _⟩, ⟨oR HO0⟩, ⟨oK⟩, ⟨oB⟩⟩
 case round =>
  clear H'
  obtain ⟨x0_1, x1_1, x5_1, rfl, rfl, HA, HK1, HO_0, HK, HB⟩ := hrel
  cases gk with
  | zero => exact absurd HA.out (by simp [laws_markAttrS.l0])
  | succ k1 =>
   have H := HA.out
   clear HA
   simp only [laws_markAttrS.l0] at H
   replace H := itD H
   rcases H with ⟨c3b0, H⟩ | ⟨c3b0, H⟩
   ·replace H := bA H
    obtain ⟨t205, A4, H⟩ := H
    try dsimp only at H
    replace H := itD H
    rcases H with ⟨c5b0, H⟩ | ⟨c5b0, H⟩
    ·obtain ⟨y206, hy206⟩ : ∃ y_ : List (S90), y_ = (x0_1.set (x5_1 : Int).toNat (⟨t205, (rd_T90 x0_1 x5_1).f1⟩ : S90)) := ⟨_, rfl⟩
     replace H : ((laws_markText.f k1 (wrap64 (x1_1 + 1))).bind fun t207 => (laws_markAttrS.l0 k1 (y206.set (x5_1 : Int).toNat (⟨(rd_T90 y206 x5_1).f0, t207⟩ : S90)) (wrap64 ((wrap64 (x1_1 + 1)) + 1)) (wrap64 (x5_1 + 1)))) = some (r1, r2) := by first | (rw [hy206]; with_reducible exact H) | (have H2_ := (Option.bind_some _ _).symm.trans H; rw [hy206]; with_reducible exact H2_) | (have H2_ := (Option.bind_some _ _).symm.trans H; with_reducible exact H2_) | with_reducible exact H | (rw [hy206]; exact H) | exact H
     have Ny206 := Aside0.mk hy206
     clear hy206
     replace H := bA H
     obtain ⟨t207, A7, H⟩ := H
     try dsimp only at H
     obtain ⟨y208, hy208⟩ : ∃ y_ : List (S90), y_ = (y206.set (x5_1 : Int).toNat (⟨(rd_T90 y206 x5_1).f0, t207⟩ : S90)) := ⟨_, rfl⟩
     replace H : (laws_markAttrS.l0 k1 y208 (wrap64 ((wrap64 (x1_1 + 1)) + 1)) (wrap64 (x5_1 + 1))) = some (r1, r2) := by first | (rw [hy208]; with_reducible exact H) | (have H2_ := (Option.bind_some _ _).symm.trans H; rw [hy208]; with_reducible exact H2_) | (have H2_ := (Option.bind_some _ _).symm.trans H; with_reducible exact H2_) | with_reducible exact H | (rw [hy208]; exact H) | exact H
     have Ny208 := Aside0.mk hy208
     clear hy208
     have H' := Aside0.mk H
     clear H
     obtain ⟨Ao9, co9, eo9⟩ := Kd.R_slice HO_0.out
     subst eo9
     go_wp2_with (first | ((with_reducible refine gate_callee (f := 85) rfl ?_); refine gl_ 15 Try.func85 (laws_markText.calls k1 x1_1 t205 _ A4.out) ?_; rintro e w10 ⟨rfl, hb⟩; refine ⟨_, rfl, ?_⟩; replace HO_0 := kr_ HO_0 hb; replace HK := Aside0.mk (Kept.below (S := (fun k_ => P0_ k_)) oK hb); replace HB := Aside0.mk (below_step oB hb); (try clear hk); have p6 : 0 ≤ (x5_1 : Int) := oa; have q6 : (x5_1 : Int) < ((x0_1.length : Int) : Int) := oa; obtain ⟨go6, co6, eo6, gb6, gl6, cl6, HG6⟩ := Kd.R_form HO_0.out (by omega); (first | cases eo6 | (injection eo6 with ea_ en_ ec_; (first | subst ea_ | (injection ea_ with ea_; subst ea_)); subst ec_; clear en_)); have GB6 := Aside0.mk gb6; have GG6 := Aside0.mk HG6; clear gb6 gl6 HG6; have HMgo6 := Aside0.mk (show (P0_ go6 ∨ w.heap.size ≤ go6) from (HO_0.out.1 _ rfl)); obtain ⟨ce6, hcl6, hM6, hcc6, hfr6⟩ := Kd.R_elem HO_0.out z90 (x5_1 : Int) p6 q6; obtain rfl := k90_openM hM6; have hx6_0 : w10.cell? ⟨go6, (x5_1 : Int).toNat * 2, none⟩ = some (.string ((rd_T90 x0_1 x5_1).f0)) := hcc6 0 _ rfl; have hx6_1 : w10.cell? ⟨go6, (x5_1 : Int).toNat * 2 + 1, none⟩ = some (.string ((rd_T90 x0_1 x5_1).f1)) := hcc6 1 _ rfl; have hf6_0 : w10.frozen? ⟨go6, (x5_1 : Int).toNat * 2, none⟩ = false := hfr6 0; have hf6_1 : w10.frozen? ⟨go6, (x5_1 : Int).toNat * 2 + 1, none⟩ = false := hfr6 1; clear hcl6 hcc6 hfr6 hM6; replace p6 := eq_true p6; replace q6 := eq_true q6; have HX11 := Aside0.mk (show Kd.R k90 90 w10 w0.heap.size (fun k_ => (P0_ k_ ∨ w.heap.size ≤ k_)) (.slice (some ⟨go6, 0, none⟩) x0_1.length co9) x0_1 from (oR HO_0)); obtain ⟨ce11, hcl11, hM11, hcc11, hfr11⟩ := Kd.R_elem HX11.out z90 (x5_1 : Int) oa (by have h_ : (x5_1 : Int) < ((x0_1.length : Int) : Int) := oa; first | exact h_ | (have e_ := (Kd.R_reads' HO_0.out).1; omega) | simpa using h_); obtain rfl := k90_openM hM11; have HP11 := Kd.R_seg HX11.out (x5_1 : Int) oa (by have h_ : (x5_1 : Int) < ((x0_1.length : Int) : Int) := oa; first | exact h_ | (have e_ := (Kd.R_reads' HO_0.out).1; omega) | simpa using h_) (seg := [.string t205]) (j := 0) hcl11 hcc11 (show 1 ≤ 2 from by decide) (x' := (⟨t205, (rd_T90 x0_1 x5_1).f1⟩ : S90)) (k90_mkM _ _ _ (⟨t205, (rd_T90 x0_1 x5_1).f1⟩ : S90) ) (fun _ hk => hk); have hx11_0 := hcc11 0 _ rfl; (try simp only [show (k90).sz = 2 from rfl, Nat.mul_one, Nat.add_zero] at hx11_0); have hf11_0 := hfr11 0; (try simp only [show (k90).sz = 2 from rfl, Nat.mul_one, Nat.add_zero] at hf11_0); clear hcl11 hcc11 hfr11 hM11) | ((with_reducible refine gate_store (t := 9) (p := 17) rfl ?_); refine store_event (t := 9) (p := 17) (v := ?vo_w12) (w1 := (w10.setCell ⟨go6, (x5_1 : Int).toNat * 2, none⟩ (.string t205))) ?hg ?ho ?hn ?hr ?_; (case ho => rfl); (case hg => rfl); (case hn => rfl); (case hr => first | (go_simp; done) | (go_simp; rfl)); intro w12 hw; have hg : w10.grownBy w12 (some go6) := (by rw [hw]; exact HP11.2); have hp_ : Kd.R k90 90 w12 w0.heap.size (fun k_ => (P0_ k_ ∨ w.heap.size ≤ k_)) (.slice (some ⟨go6, 0, none⟩) x0_1.length co9) y206 := (by rw [hw, Ny206.out]; exact HP11.1); clear HP11; replace HO_0 := Aside0.mk (hp_); replace HK := Aside0.mk (Kept.of_grown (S := (fun k_ => P0_ k_)) hg oK (fun k_ e_ => (HO_0.out.1 k_ e_))); replace HB := Aside0.mk ((by rw [hw]; exact below_set (HB.out) GB6.out : Below w0.heap.size w0 w12)); clear hg hw hp_) | ((with_reducible refine gate_callee (f := 85) rfl ?_); refine gl_ 23 Try.func85 (laws_markText.calls k1 (wrap64 (x1_1 + 1)) t207 _ A7.out) ?_; rintro e w13 ⟨rfl, hb⟩; refine ⟨_, rfl, ?_⟩; replace HO_0 := kr_ HO_0 hb; replace HK := Aside0.mk (Kept.below (S := (fun k_ => P0_ k_)) oK hb); replace HB := Aside0.mk (below_step oB hb); (try clear hk); have p8 : (0 ≤ (x5_1 : Int)) = True := oT; have q8 : ((x5_1 : Int) < ((x0_1.length : Int) : Int)) = True := oT; obtain ⟨ce8, hcl8, hM8, hcc8, hfr8⟩ := Kd.R_elem HO_0.out z90 (x5_1 : Int) oa oa; obtain rfl := k90_openM hM8; have hx8_0 : w13.cell? ⟨go6, (x5_1 : Int).toNat * 2, none⟩ = some (.string ((rd_T90 y206 x5_1).f0)) := hcc8 0 _ rfl; have hx8_1 : w13.cell? ⟨go6, (x5_1 : Int).toNat * 2 + 1, none⟩ = some (.string ((rd_T90 y206 x5_1).f1)) := hcc8 1 _ rfl; have hf8_0 : w13.frozen? ⟨go6, (x5_1 : Int).toNat * 2, none⟩ = false := hfr8 0; have hf8_1 : w13.frozen? ⟨go6, (x5_1 : Int).toNat * 2 + 1, none⟩ = false := hfr8 1; clear hcl8 hcc8 hfr8 hM8; have HX14 := Aside0.mk (show Kd.R k90 90 w13 w0.heap.size (fun k_ => (P0_ k_ ∨ w.heap.size ≤ k_)) (.slice (some ⟨go6, 0, none⟩) x0_1.length co9) y206 from (oR HO_0)); obtain ⟨ce14, hcl14, hM14, hcc14, hfr14⟩ := Kd.R_elem HX14.out z90 (x5_1 : Int) oa (by have h_ : (x5_1 : Int) < ((x0_1.length : Int) : Int) := oa; first | exact h_ | (have e_ := (Kd.R_reads' HO_0.out).1; omega) | simpa using h_); obtain rfl := k90_openM hM14; have HP14 := Kd.R_seg HX14.out (x5_1 : Int) oa (by have h_ : (x5_1 : Int) < ((x0_1.length : Int) : Int) := oa; first | exact h_ | (have e_ := (Kd.R_reads' HO_0.out).1; omega) | simpa using h_) (seg := [.string t207]) (j := 1) hcl14 hcc14 (show 2 ≤ 2 from by decide) (x' := (⟨(rd_T90 y206 x5_1).f0, t207⟩ : S90)) (k90_mkM _ _ _ (⟨(rd_T90 y206 x5_1).f0, t207⟩ : S90) ) (fun _ hk => hk); have hx14_1 := hcc14 1 _ rfl; (try simp only [show (k90).sz = 2 from rfl, Nat.mul_one, Nat.add_zero] at hx14_1); have hf14_1 := hfr14 1; (try simp only [show (k90).sz = 2 from rfl, Nat.mul_one, Nat.add_zero] at hf14_1); clear hcl14 hcc14 hfr14 hM14) | ((with_reducible refine gate_store (t := 9) (p := 25) rfl ?_); refine store_event (t := 9) (p := 25) (v := ?vo_w15) (w1 := (w13.setCell ⟨go6, (x5_1 : Int).toNat * 2 + 1, none⟩ (.string t207))) ?hg ?ho ?hn ?hr ?_; (case ho => rfl); (case hg => rfl); (case hn => rfl); (case hr => first | (go_simp; done) | (go_simp; rfl)); intro w15 hw; have hg : w13.grownBy w15 (some go6) := (by rw [hw]; exact HP14.2); have hp_ : Kd.R k90 90 w15 w0.heap.size (fun k_ => (P0_ k_ ∨ w.heap.size ≤ k_)) (.slice (some ⟨go6, 0, none⟩) x0_1.length co9) y208 := (by rw [hw, Ny208.out]; exact HP14.1); clear HP14; replace HO_0 := Aside0.mk (hp_); replace HK := Aside0.mk (Kept.of_grown (S := (fun k_ => P0_ k_)) hg oK (fun k_ e_ => (HO_0.out.1 k_ e_))); replace HB := Aside0.mk ((by rw [hw]; exact below_set (HB.out) GB6.out : Below w0.heap.size w0 w15)); clear hg hw hp_))
     go_roundg k1
     case measure => have := HK1.out; omega
     case rel => exact ⟨(y208), (wrap64 ((wrap64 (x1_1 + 1)) + 1)), (wrap64 (x5_1 + 1)), oS, oS, H', ⟨by have := HK1.out; omega⟩, ⟨oR HO_0⟩, ⟨oK⟩, ⟨oB⟩⟩
    ·cases H
   ·simp only [Option.some.injEq, Prod.mk.injEq] at H
    obtain ⟨rfl, rfl⟩ := H
    obtain ⟨Ao16, co16, eo16⟩ := Kd.R_slice HO_0.out
    subst eo16
    go_wp2
    go_ret
    exact ⟨oE, oR HO_0, oB, oK⟩

/-! ### laws_markInodeS: function 52 -/
/-- An element of a row of inodes, lent: its cells, its rows, and the row without it. -/
structure MkS (w0 W : World) (ok : Nat → Prop) (g n co : Nat) (xs : List S40) (i : Nat) (oki : Nat → Prop) (v3 v4 v5 : Value) (y : S40) : Prop where
 lt : i < n
 h : Kd.H k40 40 W w0.heap.size ok (.slice (some ⟨g, 0, none⟩) n co) xs (i : Int) oki [.int .i64 y.f0, .int .i64 y.f1, .int .i64 y.f2, v3, v4, v5]
 r3 : (Kd.int .u8).R 5 W w0.heap.size oki v3 y.f3
 r4 : k82.R 82 W w0.heap.size oki v4 y.f4
 r5 : k90.R 90 W w0.heap.size oki v5 y.f5
 fr : ∀ j, W.frozen? ⟨g, i * 6 + j, none⟩ = false
 hg : ∀ k, oki k → ok k ∧ k ≠ g
section
variable {w0 W W' : World} {ok oki : Nat → Prop} {g n co i : Nat} {xs : List S40} {v3 v4 v5 : Value} {y : S40}
theorem MkS.start (hS : Kd.S k40 40 W w0.heap.size ok (.slice (some ⟨g, 0, none⟩) n co) xs) (hi : i < n) : ∃ oki v3 v4 v5, MkS w0 W ok g n co xs i oki v3 v4 v5 (rd_T40 xs (i : Int)) := by
 obtain ⟨oki, c, hcl, hM, hcc, hfr, hoki, hH⟩ := Kd.S_elem hS z40 (i : Int) (by omega) (by omega)
 obtain ⟨v3, v4, v5, rfl, g3, g4, g5⟩ := k40_openM hM
 exact ⟨oki, v3, v4, v5, hi, hH, g3, g4, g5, hfr, hoki⟩
theorem MkS.cells (m : MkS w0 W ok g n co xs i oki v3 v4 v5 y) : W.cell? ⟨g, i * 6, none⟩ = some (.int .i64 y.f0) ∧ W.cell? ⟨g, i * 6 + 1, none⟩ = some (.int .i64 y.f1) ∧ W.cell? ⟨g, i * 6 + 2, none⟩ = some (.int .i64 y.f2) ∧ W.cell? ⟨g, i * 6 + 3, none⟩ = some v3 ∧ W.cell? ⟨g, i * 6 + 4, none⟩ = some v4 ∧ W.cell? ⟨g, i * 6 + 5, none⟩ = some v5 := by
 obtain ⟨_, _, _, _, _, hcc, _⟩ := Kd.H_raw m.h (by omega) (by have := m.lt; omega)
 exact ⟨hcc 0 _ rfl, hcc 1 _ rfl, hcc 2 _ rfl, hcc 3 _ rfl, hcc 4 _ rfl, hcc 5 _ rfl⟩
theorem MkS.typed (m : MkS w0 W ok g n co xs i oki v3 v4 v5 y) : ∃ cells, W.heap[g]? = some (.cells cells 40 (0, 0)) := by
 obtain ⟨_, f, hR⟩ := m.h
 exact Kd.R_typed hR g (by simp [Value.ownBlock])
theorem MkS.okg (m : MkS w0 W ok g n co xs i oki v3 v4 v5 y) : ok g := by
 obtain ⟨_, f, hR⟩ := m.h
 exact (hR.1 g (by simp [Value.ownBlock])).1
theorem MkS.base (m : MkS w0 W ok g n co xs i oki v3 v4 v5 y) : w0.heap.size ≤ g := by
 obtain ⟨_, f, hR⟩ := m.h
 exact Kd.R_base hR g (by simp [Value.ownBlock])
theorem MkS.back (m : MkS w0 W ok g n co xs i oki v3 v4 v5 y) : Kd.S k40 40 W w0.heap.size ok (.slice (some ⟨g, 0, none⟩) n co) (xs.set i y) := by
 have := Kd.H_back m.h (k40_mkM W w0.heap.size oki y m.r3 m.r4 m.r5) (fun _ hk => hk)
 simpa using this
theorem MkS.frset (m : MkS w0 W ok g n co xs i oki v3 v4 v5 y) (j : Nat) (u : Value) : ∀ q, (W.setCell ⟨g, i * 6 + j, none⟩ u).frozen? ⟨g, i * 6 + q, none⟩ = false := by
 intro q
 obtain ⟨cs, hc⟩ := m.typed
 exact blk_frozen (blk_set hc _ _) _
theorem MkS.set0 (m : MkS w0 W ok g n co xs i oki v3 v4 v5 y) (a : Int) : MkS w0 (W.setCell ⟨g, i * 6, none⟩ (.int .i64 a)) ok g n co xs i oki v3 v4 v5 ⟨a, y.f1, y.f2, y.f3, y.f4, y.f5⟩ :=
 ⟨m.lt, (Kd.H_seg m.h (seg := [.int .i64 a]) (j := 0) (by omega) (by have := m.lt; omega) (show 1 ≤ 6 by decide) (by simp; rfl)).1, Kd.R_far m.r3 (fun k hk => (m.hg k hk).2) _, Kd.R_far m.r4 (fun k hk => (m.hg k hk).2) _, Kd.R_far m.r5 (fun k hk => (m.hg k hk).2) _, m.frset 0 _, m.hg⟩
theorem MkS.set1 (m : MkS w0 W ok g n co xs i oki v3 v4 v5 y) (a : Int) : MkS w0 (W.setCell ⟨g, i * 6 + 1, none⟩ (.int .i64 a)) ok g n co xs i oki v3 v4 v5 ⟨y.f0, a, y.f2, y.f3, y.f4, y.f5⟩ :=
 ⟨m.lt, (Kd.H_seg m.h (seg := [.int .i64 a]) (j := 1) (by omega) (by have := m.lt; omega) (show 2 ≤ 6 by decide) (by simp; rfl)).1, Kd.R_far m.r3 (fun k hk => (m.hg k hk).2) _, Kd.R_far m.r4 (fun k hk => (m.hg k hk).2) _, Kd.R_far m.r5 (fun k hk => (m.hg k hk).2) _, m.frset 1 _, m.hg⟩
theorem MkS.set2 (m : MkS w0 W ok g n co xs i oki v3 v4 v5 y) (a : Int) : MkS w0 (W.setCell ⟨g, i * 6 + 2, none⟩ (.int .i64 a)) ok g n co xs i oki v3 v4 v5 ⟨y.f0, y.f1, a, y.f3, y.f4, y.f5⟩ :=
 ⟨m.lt, (Kd.H_seg m.h (seg := [.int .i64 a]) (j := 2) (by omega) (by have := m.lt; omega) (show 3 ≤ 6 by decide) (by simp; rfl)).1, Kd.R_far m.r3 (fun k hk => (m.hg k hk).2) _, Kd.R_far m.r4 (fun k hk => (m.hg k hk).2) _, Kd.R_far m.r5 (fun k hk => (m.hg k hk).2) _, m.frset 2 _, m.hg⟩
theorem MkS.frkept (m : MkS w0 W ok g n co xs i oki v3 v4 v5 y) {S : Nat → Prop} (hk : Kept W W' S) (hn : ¬ S g) : ∀ q, W'.frozen? ⟨g, i * 6 + q, none⟩ = false := by
 intro q
 obtain ⟨cs, hc⟩ := m.typed
 exact blk_frozen (blk_kept hc hk hn) _
theorem MkS.after3 (m : MkS w0 W ok g n co xs i oki v3 v4 v5 y) {l : List Int} (hk : Kept W W' (fun k => some k = v3.ownBlock)) (hr : (Kd.int .u8).R 5 W' w0.heap.size (fun k => some k = v3.ownBlock ∨ W.heap.size ≤ k) v3 l) : MkS w0 W' ok g n co xs i oki v3 v4 v5 ⟨y.f0, y.f1, y.f2, l, y.f4, y.f5⟩ := by
 obtain ⟨cs, hc⟩ := m.typed
 exact ⟨m.lt, Kd.H_kept m.h hk (fun k _ hn hs => hn (m.r3.1 k hs.symm)), Kd.R_reok rfl hr (fun k e => m.r3.1 k e), Kd.R_mono (Kd.R_kept (Kd.R_apart' m.r4 (Kd.R_typed m.r3) (by decide)) hk (fun k hk hs => hk.2 hs)) (fun _ hk => hk.1), Kd.R_mono (Kd.R_kept (Kd.R_apart' m.r5 (Kd.R_typed m.r3) (by decide)) hk (fun k hk hs => hk.2 hs)) (fun _ hk => hk.1), m.frkept hk (fun e => Kd.R_ne m.r3 hc (by decide) e), m.hg⟩
theorem MkS.after4 (m : MkS w0 W ok g n co xs i oki v3 v4 v5 y) {l : List S82} (hk : Kept W W' (fun k => some k = v4.ownBlock)) (hr : k82.R 82 W' w0.heap.size (fun k => some k = v4.ownBlock ∨ W.heap.size ≤ k) v4 l) : MkS w0 W' ok g n co xs i oki v3 v4 v5 ⟨y.f0, y.f1, y.f2, y.f3, l, y.f5⟩ := by
 obtain ⟨cs, hc⟩ := m.typed
 exact ⟨m.lt, Kd.H_kept m.h hk (fun k _ hn hs => hn (m.r4.1 k hs.symm)), Kd.R_mono (Kd.R_kept (Kd.R_apart' m.r3 (Kd.R_typed m.r4) (by decide)) hk (fun k hk hs => hk.2 hs)) (fun _ hk => hk.1), Kd.R_reok rfl hr (fun k e => m.r4.1 k e), Kd.R_mono (Kd.R_kept (Kd.R_apart' m.r5 (Kd.R_typed m.r4) (by decide)) hk (fun k hk hs => hk.2 hs)) (fun _ hk => hk.1), m.frkept hk (fun e => Kd.R_ne m.r4 hc (by decide) e), m.hg⟩
theorem MkS.after5 (m : MkS w0 W ok g n co xs i oki v3 v4 v5 y) {l : List S90} (hk : Kept W W' (fun k => some k = v5.ownBlock)) (hr : k90.R 90 W' w0.heap.size (fun k => some k = v5.ownBlock ∨ W.heap.size ≤ k) v5 l) : MkS w0 W' ok g n co xs i oki v3 v4 v5 ⟨y.f0, y.f1, y.f2, y.f3, y.f4, l⟩ := by
 obtain ⟨cs, hc⟩ := m.typed
 exact ⟨m.lt, Kd.H_kept m.h hk (fun k _ hn hs => hn (m.r5.1 k hs.symm)), Kd.R_mono (Kd.R_kept (Kd.R_apart' m.r3 (Kd.R_typed m.r5) (by decide)) hk (fun k hk hs => hk.2 hs)) (fun _ hk => hk.1), Kd.R_mono (Kd.R_kept (Kd.R_apart' m.r4 (Kd.R_typed m.r5) (by decide)) hk (fun k hk hs => hk.2 hs)) (fun _ hk => hk.1), Kd.R_reok rfl hr (fun k e => m.r5.1 k e), m.frkept hk (fun e => Kd.R_ne m.r5 hc (by decide) e), m.hg⟩
end
def markOne (k : Nat) (x : S40) (a : Int) : Option (Int × S40) :=
 (laws_markByteS.f k x.f3 (wrap64 (wrap64 (wrap64 (a + 1) + 1) + 1))).bind fun b => (laws_markEntS.f k x.f4 b.1).bind fun c => (laws_markAttrS.f k x.f5 c.1).bind fun d => some (d.1, ⟨a, wrap64 (a + 1), wrap64 (wrap64 (a + 1) + 1), b.2, c.2, d.2⟩)
def markR (k : Nat) : List S40 → Int → Option (Int × List S40)
 | [], a => some (a, [])
 | x :: l, a => (markOne k x a).bind fun p => (markR k l p.1).bind fun q => some (q.1, p.2 :: q.2)
def laws_markInodeS.f (k : Nat) (l0 : List S40) (a1 : Int) : Option (Int × List S40) := if (l0.length : Int) ≤ 9223372036854775807 then markR k l0 a1 else none
set_option maxHeartbeats 2000000 in
set_option maxRecDepth 100000 in
theorem laws_markInodeS.calls (k : Nat) (P0_ : Nat → Prop) (u9000_ : Value) (l0 : List S40) (a1 r1 : Int) (r2 : List S40) (w0 w : World) (hB : Below w0.heap.size w0 w) (ho0 : Kd.S k40 40 w w0.heap.size P0_ u9000_ l0) (h : laws_markInodeS.f k l0 a1 = some (r1, r2)) :
  Calls Try.prog 52 #[u9000_, .int .i64 a1] w fun e w' => e = .returned (.int .i64 r1) ∧ Kd.S k40 40 w' w0.heap.size (fun k_ => P0_ k_ ∨ w.heap.size ≤ k_) u9000_ r2 ∧ Below w0.heap.size w0 w' ∧ Kept w w' P0_ := by
 unfold laws_markInodeS.f at h
 split at h
 case isFalse => cases h
 case isTrue hl =>
 obtain ⟨A, co, rfl⟩ := Kd.S_slice ho0
 have HO := Aside0.mk (show Kd.S k40 40 w w0.heap.size (fun k_ => P0_ k_ ∨ w.heap.size ≤ k_) (.slice A l0.length co) l0 from Kd.S_mono ho0 (fun _ hk => .inl hk))
 have HB := Aside0.mk hB
 have HK := Aside0.mk (Kept.refl w P0_)
 have H' : Aside0 (∃ rest, markR k (l0.drop 0) a1 = some (r1, rest) ∧ r2 = [] ++ rest) := ⟨r2, h, rfl⟩
 have HW := Aside0.mk hB.size
 clear hB ho0 h
 have hl' : l0.length ≤ 9223372036854775807 := by omega
 clear hl
 go_enter Try.func52, Try.ntmps52
 go_wp2
 go_loopg [1, 5] l0.length (fun gg s1 s5 wr => ∃ (kk : Nat) (a : Int) (done : List S40), kk ≤ l0.length ∧ l0.length - kk ≤ gg ∧ s1 = .int .i64 a ∧ s5 = .int .i64 kk ∧ Aside0 (done.length = kk) ∧ Aside0 (∃ rest, markR k (l0.drop kk) a = some (r1, rest) ∧ r2 = done ++ rest) ∧ Aside0 (Kd.S k40 40 wr w0.heap.size (fun k_ => P0_ k_ ∨ w.heap.size ≤ k_) (.slice A l0.length co) (done ++ l0.drop kk)) ∧ Aside0 (Below w0.heap.size w0 wr) ∧ Aside0 (Kept w wr P0_))
 case atStart => exact ⟨0, a1, [], Nat.zero_le _, by omega, rfl, rfl, ⟨rfl⟩, H', HO, HB, HK⟩
 case round =>
  clear HO HB HK H'
  obtain ⟨kk, a, done, hkk, hgg, rfl, rfl, HD, HA, HO, HB, HK⟩ := hrel
  by_cases hlt : kk < l0.length
  ·have hltz : (kk : Int) < (l0.length : Int) := by omega
   have hnn : (0 : Int) ≤ (kk : Int) := by omega
   obtain ⟨rest, hm, hr2⟩ := HA.out
   clear HA
   have hx : rd_T40 (done ++ l0.drop kk) (kk : Int) = l0[kk] := by
    have hd := HD.out
    simp only [rd_T40, Int.toNat_natCast, List.getD_eq_getElem?_getD]
    rw [List.getElem?_append_right (by omega), hd, Nat.sub_self, List.drop_eq_getElem_cons hlt]
    rfl
   rw [List.drop_eq_getElem_cons hlt, markR] at hm
   replace hm := bA hm
   obtain ⟨⟨a', x'⟩, A1, hm⟩ := hm
   replace hm := bA hm
   obtain ⟨⟨b1, rest'⟩, A2, hm⟩ := hm
   simp only [Option.some.injEq, Prod.mk.injEq] at hm
   obtain ⟨rfl, rfl⟩ := hm
   have A1 := A1.out
   unfold markOne at A1
   replace A1 := bA A1
   obtain ⟨⟨k3, l3⟩, B3, A1⟩ := A1
   replace A1 := bA A1
   obtain ⟨⟨k4, l4⟩, B4, A1⟩ := A1
   replace A1 := bA A1
   obtain ⟨⟨k5, l5⟩, B5, A1⟩ := A1
   simp only [Option.some.injEq, Prod.mk.injEq] at A1
   obtain ⟨rfl, rfl⟩ := A1
   have HR2 := Aside0.mk hr2
   clear hr2
   obtain ⟨g, cap, ev, _, _, _⟩ := Kd.S_form HO.out (by have hd := HD.out; simp; omega)
   injection ev with ea en ec
   subst ea
   clear en
   subst ec
   obtain ⟨oki, v3, v4, v5, m⟩ := MkS.start HO.out hlt
   rw [hx] at m
   clear hx HO
   obtain ⟨c0_, c1_, c2_, c3_, c4_, c5_⟩ := m.cells
   have f0_ : wr.frozen? ⟨g, kk * 6, none⟩ = false := m.fr 0
   have f1_ : wr.frozen? ⟨g, kk * 6 + 1, none⟩ = false := m.fr 1
   have f2_ : wr.frozen? ⟨g, kk * 6 + 2, none⟩ = false := m.fr 2
   have m3 := ((m.set0 a).set1 (wrap64 (a + 1))).set2 (wrap64 (wrap64 (a + 1) + 1))
   have HB3 := Aside0.mk (((HB.out.setCell (p := ⟨g, kk * 6, none⟩) m.base (.int .i64 a)).setCell (p := ⟨g, kk * 6 + 1, none⟩) m.base (.int .i64 (wrap64 (a + 1)))).setCell (p := ⟨g, kk * 6 + 2, none⟩) m.base (.int .i64 (wrap64 (wrap64 (a + 1) + 1))))
   have HK3 := Aside0.mk (((HK.out.setCell (p := ⟨g, kk * 6, none⟩) m.okg (.int .i64 a)).setCell (p := ⟨g, kk * 6 + 1, none⟩) m.okg (.int .i64 (wrap64 (a + 1)))).setCell (p := ⟨g, kk * 6 + 2, none⟩) m.okg (.int .i64 (wrap64 (wrap64 (a + 1) + 1))))
   obtain ⟨A3, n3, e3⟩ := Kd.R_slice m.r3
   obtain ⟨A4, n4, e4⟩ := Kd.R_slice m.r4
   obtain ⟨A5, n5, e5⟩ := Kd.R_slice m.r5
   subst e3
   subst e4
   subst e5
   clear HB HK
   go_wp2_with (first
    | (go_at_call 53; refine (laws_markByteS.calls k _ _ _ _ k3 l3 w0 _ HB3.out (Kd.R_tight rfl m3.r3) B3.out).mono ?_; rintro e w4 ⟨rfl, hy, hb, hk⟩; have m4 := m3.after3 hk hy; have HB4 := Aside0.mk hb; have HK4 := Aside0.mk (HK3.out.then_ hk (fun q hs => (m3.hg q (m3.r3.1 q hs.symm)).1)); clear hb hk hy; obtain ⟨_, _, _, _, d4, d5⟩ := m4.cells)
    | (go_at_call 54; refine (laws_markEntS.calls k _ _ _ _ k4 l4 w0 _ HB4.out (Kd.R_tight rfl m4.r4) B4.out).mono ?_; rintro e w5 ⟨rfl, hy, hb, hk⟩; have m5 := m4.after4 hk hy; have HB5 := Aside0.mk hb; have HK5 := Aside0.mk (HK4.out.then_ hk (fun q hs => (m4.hg q (m4.r4.1 q hs.symm)).1)); clear hb hk hy; obtain ⟨_, _, _, _, _, e5⟩ := m5.cells)
    | (go_at_call 55; refine (laws_markAttrS.calls k _ _ _ _ k5 l5 w0 _ HB5.out (Kd.R_tight rfl m5.r5) B5.out).mono ?_; rintro e w6 ⟨rfl, hy, hb, hk⟩; have m6 := m5.after5 hk hy; have HB6 := Aside0.mk hb; have HK6 := Aside0.mk (HK5.out.then_ hk (fun q hs => (m5.hg q (m5.r5.1 q hs.symm)).1)); clear hb hk hy))
   go_roundg (l0.length - (kk + 1))
   case measure => omega
   case rel =>
    refine ⟨kk + 1, k5, done ++ [⟨a, wrap64 (a + 1), wrap64 (wrap64 (a + 1) + 1), l3, l4, l5⟩], by omega, by omega, rfl, by go_num, ⟨by have hd := HD.out; simp; omega⟩, ⟨rest', A2.out, by rw [HR2.out]; simp⟩, ⟨?_⟩, HB6, HK6⟩
    have hs := m6.back
    have hd := HD.out
    rw [List.set_append_right _ _ (by omega), hd, Nat.sub_self, List.drop_eq_getElem_cons hlt, List.set_cons_zero] at hs
    simpa using hs
  ·have hltz : ¬ (kk : Int) < (l0.length : Int) := by omega
   obtain rfl : kk = l0.length := by omega
   obtain ⟨rest, hm, hr2⟩ := HA.out
   rw [List.drop_length, markR] at hm
   simp only [Option.some.injEq, Prod.mk.injEq] at hm
   obtain ⟨rfl, rfl⟩ := hm
   subst hr2
   have HO1 := HO.out
   rw [List.drop_length] at HO1
   have HO2 := Aside0.mk HO1
   clear HO HO1 HA
   go_wp2
   go_ret
   exact ⟨rfl, by simpa using HO2.out, HB.out, HK.out⟩
/-! ### laws_markTab: function 15 -/
set_option maxHeartbeats 1000000 in
theorem laws_markTab.calls (k : Nat) (P0_ : Nat → Prop) (u : Value) (l0 : List S40) (a0 a1 r1 : Int) (r2 : List S40) (w0 w : World) (hB : Below w0.heap.size w0 w) (ho0 : Kd.S k40 40 w w0.heap.size P0_ u l0) (h : laws_markInodeS.f k l0 a1 = some (r1, r2)) :
  Calls Try.prog 15 #[.agg #[u, .int .i64 a0], .int .i64 a1] w fun e w' => e = .returned (.int .i64 r1) ∧ Kd.S k40 40 w' w0.heap.size (fun k_ => P0_ k_ ∨ w.heap.size ≤ k_) u r2 ∧ Below w0.heap.size w0 w' ∧ Kept w w' P0_ := by
 obtain ⟨A, co, rfl⟩ := Kd.S_slice ho0
 have HH := Aside0.mk h
 have hc := laws_markInodeS.calls k P0_ (.slice A l0.length co) l0 a1 r1 r2 w0 (w.alloc (.cells #[.slice A l0.length co, .int .i64 a0] 34)) (hB.alloc hB.size _) (Kd.S_alloc ho0 _) h
 have HC := Aside0.mk hc
 have HW := Aside0.mk hB.size
 clear h hc hB ho0
 go_enter Try.func15, Try.ntmps15
 go_wp2_with (go_at_call 52; refine HC.out.mono ?_; rintro e w1 ⟨rfl, hs, hb, hk⟩)
 go_ret
 exact ⟨rfl, Kd.S_mono hs (fun q hq => hq.imp_right (fun h => by simp at h; omega)), hb, (Kept.alloc (Kept.refl w P0_) _).then_ hk (fun q hq => .inl hq)⟩
/-! ### spec_l4At: function 36 -/
def spec_l4At.l0 : Nat → Int → Int → List (S40) → Int → Option (Int)
 | 0, _, _, _, _ => none
 | k + 1, x1, x5, x210000, x210001 => if x5 < (x210000.length : Int) then (if 0 ≤ x5 then (if ((rd_T40 x210000 x5).f0) = x1 then (some x5) else (spec_l4At.l0 k x1 (wrap64 (x5 + 1)) x210000 x210001)) else (none)) else (some (-1))
def spec_l4At.f (k : Nat) (l0_0 : List (S40)) (a0_1 : Int) (a1 : Int) : Option (Int) := spec_l4At.l0 k a1 0 l0_0 a0_1
set_option maxHeartbeats 8000000 in
set_option maxRecDepth 100000 in
theorem spec_l4At.calls (k : Nat) (A0_0 : Option Addr) (c0_0 : Nat) (l0_0 : List (S40)) (a0_1 : Int) (a1 : Int) (r : Int) (w : World) (hr0_0 : Kd.C k40 w A0_0 l0_0.length l0_0) (hc0_0 : l0_0.length ≤ c0_0) (h : spec_l4At.f k l0_0 a0_1 a1 = some r) :
  Calls Try.prog 36 #[.agg #[.slice A0_0 l0_0.length c0_0, .int .i64 a0_1], .int .i64 a1] w fun e w' => e = .returned (.int .i64 r) ∧ Below w.heap.size w w' := by
 have hu34 := Try.underlying34
 have HR0_0 := Aside0.mk hr0_0
 have HC0_0 := Aside0.mk hc0_0
 clear hr0_0 hc0_0
 have HB := Aside0.mk (Below.refl w.heap.size w)
 unfold spec_l4At.f at h
 have H := h
 clear h
 have H' := Aside0.mk H
 clear H
 go_enter Try.func36, Try.ntmps36
 go_wp2_with (first | ((with_reducible refine gate_dst (N := 2) rfl ?_); refine bx_ 2 #[.slice A0_0 l0_0.length c0_0, .int .i64 a0_1] 34 ?_; intro gb209 hg w3 hbox hb; have BK209 := Aside0.mk (hbox); have GW209 := gs_ hg; have GE209 := gs_ hg; replace HB := Aside0.mk (below_step oB hb); clear hb hbox hg))
 go_loopg [5] k (fun kq v5 w' => ∃ (x5_1 : Int), v5 = .int .i64 x5_1 ∧ Aside0 (spec_l4At.l0 kq a1 x5_1 l0_0 a0_1 = some r) ∧ Aside0 (kq ≤ k) ∧ Aside0 (w'.heap[gb209]? = some (.cells #[(.slice A0_0 l0_0.length c0_0), .int .i64 a0_1] 34 (0, 0))) ∧ Aside0 (Below w.heap.size w w'))
 case atStart => exact ⟨(0), oS, H', ⟨Nat.le_refl _⟩, ⟨oF BK209⟩, ⟨oB⟩⟩
 case round =>
  clear H'
  obtain ⟨x5_1, rfl, HA, HK1, BK209, HB⟩ := hrel
  cases gk with
  | zero => exact absurd HA.out (by simp [spec_l4At.l0])
  | succ k1 =>
   have H := HA.out
   clear HA
   simp only [spec_l4At.l0] at H
   replace H := itD H
   rcases H with ⟨c4b0, H⟩ | ⟨c4b0, H⟩
   ·replace H := itD H
    rcases H with ⟨c5b0, H⟩ | ⟨c5b0, H⟩
    ·by_cases c6 : ((rd_T40 l0_0 x5_1).f0) = a1
     ·rw [if_pos c6] at H
      have c6b0 : (((rd_T40 l0_0 x5_1).f0) == a1) = true := beq_iff_eq.mpr c6
      have c6b1 : (((rd_T40 l0_0 x5_1).f0) != a1) = false := bne_eq_false_iff_eq.mpr c6
      clear c6
      obtain rfl := Option.some.inj H
      obtain ⟨⟨_, _⟩, _, _⟩ := z2 BK209
      have p210 : (0 ≤ (x5_1 : Int)) = True := oT
      have q210 : (x5_1 < (l0_0.length : Int)) = True := oT
      obtain ⟨ad210, A210_3, c210_3, A210_4, c210_4, A210_5, c210_5, e210, hx210_0, hx210_1, hx210_2, hx210_3, hx210_4, hx210_5, hl210_3, hi210_3, hl210_4, hi210_4, hl210_5, hi210_5⟩ := at_T40 HR0_0.out x5_1 oa oa
      cases e210
      replace hx210_0 := cB HB hx210_0
      replace hx210_1 := cB HB hx210_1
      replace hx210_2 := cB HB hx210_2
      replace hx210_3 := cB HB hx210_3
      replace hx210_4 := cB HB hx210_4
      replace hx210_5 := cB HB hx210_5
      have HR210_3 := Aside0.mk hi210_3
      have HC210_3 := Aside0.mk hl210_3
      clear hi210_3 hl210_3
      have HR210_4 := Aside0.mk hi210_4
      have HC210_4 := Aside0.mk hl210_4
      clear hi210_4 hl210_4
      have HR210_5 := Aside0.mk hi210_5
      have HC210_5 := Aside0.mk hl210_5
      clear hi210_5 hl210_5
      go_wp2
      go_ret
      exact ⟨oE, oB⟩
     ·rw [if_neg c6] at H
      have c6b0 : (((rd_T40 l0_0 x5_1).f0) == a1) = false := beq_eq_false_iff_ne.mpr c6
      have c6b1 : (((rd_T40 l0_0 x5_1).f0) != a1) = true := bne_iff_ne.mpr c6
      have H' := Aside0.mk H
      clear H
      obtain ⟨⟨_, _⟩, _, _⟩ := z2 BK209
      have p210 : (0 ≤ (x5_1 : Int)) = True := oT
      have q210 : (x5_1 < (l0_0.length : Int)) = True := oT
      obtain ⟨ad210, A210_3, c210_3, A210_4, c210_4, A210_5, c210_5, e210, hx210_0, hx210_1, hx210_2, hx210_3, hx210_4, hx210_5, hl210_3, hi210_3, hl210_4, hi210_4, hl210_5, hi210_5⟩ := at_T40 HR0_0.out x5_1 oa oa
      cases e210
      replace hx210_0 := cB HB hx210_0
      replace hx210_1 := cB HB hx210_1
      replace hx210_2 := cB HB hx210_2
      replace hx210_3 := cB HB hx210_3
      replace hx210_4 := cB HB hx210_4
      replace hx210_5 := cB HB hx210_5
      have HR210_3 := Aside0.mk hi210_3
      have HC210_3 := Aside0.mk hl210_3
      clear hi210_3 hl210_3
      have HR210_4 := Aside0.mk hi210_4
      have HC210_4 := Aside0.mk hl210_4
      clear hi210_4 hl210_4
      have HR210_5 := Aside0.mk hi210_5
      have HC210_5 := Aside0.mk hl210_5
      clear hi210_5 hl210_5
      go_wp2
      go_roundg k1
      case measure => have := HK1.out; omega
      case rel => exact ⟨(wrap64 (x5_1 + 1)), oS, H', ⟨by have := HK1.out; omega⟩, ⟨oF BK209⟩, ⟨oB⟩⟩
    ·cases H
   ·obtain rfl := Option.some.inj H
    obtain ⟨⟨_, _⟩, _, _⟩ := z2 BK209
    go_wp2
    go_ret
    exact ⟨oE, oB⟩

/-! ### spec_l3Copy: function 37 -/
def spec_l3Copy.f (a0_0 : Int) (a0_1 : Int) (a0_2 : Int) (l0_3 : List Int) (l0_4 : List (S82)) (l0_5 : List (S90)) : Option (Int × Int × Int × List Int × (List (S82)) × (List (S90))) := (some (([] : List Int) : List Int)).bind fun y214 => (if y214.length + l0_3.length < 140737488355328 then ((some (([] : List (S82)) : List (S82))).bind fun y220 => (if y220.length + l0_4.length < 5864062014805 then ((some (([] : List (S90)) : List (S90))).bind fun y226 => (if y226.length + l0_5.length < 4398046511104 then (some (a0_0, a0_1, a0_2, (y214 ++ l0_3), (y220 ++ l0_4), (y226 ++ l0_5))) else (none))) else (none))) else (none))
set_option maxHeartbeats 8000000 in
set_option maxRecDepth 100000 in
theorem spec_l3Copy.calls (a0_0 : Int) (a0_1 : Int) (a0_2 : Int) (A0_3 : Option Addr) (c0_3 : Nat) (l0_3 : List Int) (A0_4 : Option Addr) (c0_4 : Nat) (l0_4 : List (S82)) (A0_5 : Option Addr) (c0_5 : Nat) (l0_5 : List (S90)) (r1 : Int) (r2 : Int) (r3 : Int) (r4 : List Int) (r5 : List (S82)) (r6 : List (S90)) (w : World) (hr0_3 : Kd.C (Kd.int .u8) w A0_3 l0_3.length l0_3) (hc0_3 : l0_3.length ≤ c0_3) (hr0_4 : Kd.C k82 w A0_4 l0_4.length l0_4) (hc0_4 : l0_4.length ≤ c0_4) (hr0_5 : Kd.C k90 w A0_5 l0_5.length l0_5) (hc0_5 : l0_5.length ≤ c0_5) (h : spec_l3Copy.f a0_0 a0_1 a0_2 l0_3 l0_4 l0_5 = some (r1, r2, r3, r4, r5, r6)) :
  Calls Try.prog 37 #[.agg #[.int .i64 a0_0, .int .i64 a0_1, .int .i64 a0_2, .slice A0_3 l0_3.length c0_3, .slice A0_4 l0_4.length c0_4, .slice A0_5 l0_5.length c0_5]] w fun e w' => ∃ v3_ v4_ v5_ : Value, e = .returned (.agg #[.int .i64 r1, .int .i64 r2, .int .i64 r3, v3_, v4_, v5_]) ∧ Kd.R (Kd.int .u8) 5 w' w.heap.size (fun _ => True) v3_ r4 ∧ Kd.R k82 82 w' w.heap.size (fun _ => True) v4_ r5 ∧ Kd.R k90 90 w' w.heap.size (fun _ => True) v5_ r6 ∧ Below w.heap.size w w' := by
 have hu40 := Try.underlying40
 have HR0_3 := Aside0.mk hr0_3
 have HC0_3 := Aside0.mk hc0_3
 clear hr0_3 hc0_3
 have HR0_4 := Aside0.mk hr0_4
 have HC0_4 := Aside0.mk hc0_4
 clear hr0_4 hc0_4
 have HR0_5 := Aside0.mk hr0_5
 have HC0_5 := Aside0.mk hc0_5
 clear hr0_5 hc0_5
 have HB := Aside0.mk (Below.refl w.heap.size w)
 unfold spec_l3Copy.f at h
 have H := h
 clear h
 obtain ⟨y214, hy214⟩ : ∃ y_ : List Int, y_ = (([] : List Int)) := ⟨_, rfl⟩
 replace H : (if y214.length + l0_3.length < 140737488355328 then ((some (([] : List (S82)) : List (S82))).bind fun y220 => (if y220.length + l0_4.length < 5864062014805 then ((some (([] : List (S90)) : List (S90))).bind fun y226 => (if y226.length + l0_5.length < 4398046511104 then (some (a0_0, a0_1, a0_2, (y214 ++ l0_3), (y220 ++ l0_4), (y226 ++ l0_5))) else (none))) else (none))) else (none)) = some (r1, r2, r3, r4, r5, r6) := by first | (rw [hy214]; with_reducible exact H) | (have H2_ := (Option.bind_some _ _).symm.trans H; rw [hy214]; with_reducible exact H2_) | (have H2_ := (Option.bind_some _ _).symm.trans H; with_reducible exact H2_) | with_reducible exact H | (rw [hy214]; exact H) | exact H
 have Ny214 := Aside0.mk hy214
 clear hy214
 by_cases c2 : y214.length + l0_3.length < 140737488355328
 ·rw [if_pos c2] at H
  have LMc2 := Aside0.mk c2
  clear c2
  obtain ⟨y217, hy217⟩ : ∃ y_ : List Int, y_ = (y214 ++ l0_3) := ⟨_, rfl⟩
  replace H : ((some (([] : List (S82)) : List (S82))).bind fun y220 => (if y220.length + l0_4.length < 5864062014805 then ((some (([] : List (S90)) : List (S90))).bind fun y226 => (if y226.length + l0_5.length < 4398046511104 then (some (a0_0, a0_1, a0_2, y217, (y220 ++ l0_4), (y226 ++ l0_5))) else (none))) else (none))) = some (r1, r2, r3, r4, r5, r6) := by first | (rw [hy217]; with_reducible exact H) | (have H2_ := (Option.bind_some _ _).symm.trans H; rw [hy217]; with_reducible exact H2_) | (have H2_ := (Option.bind_some _ _).symm.trans H; with_reducible exact H2_) | with_reducible exact H | (rw [hy217]; exact H) | exact H
  have Ny217 := Aside0.mk hy217
  clear hy217
  obtain ⟨y220, hy220⟩ : ∃ y_ : List (S82), y_ = (([] : List (S82))) := ⟨_, rfl⟩
  replace H : (if y220.length + l0_4.length < 5864062014805 then ((some (([] : List (S90)) : List (S90))).bind fun y226 => (if y226.length + l0_5.length < 4398046511104 then (some (a0_0, a0_1, a0_2, y217, (y220 ++ l0_4), (y226 ++ l0_5))) else (none))) else (none)) = some (r1, r2, r3, r4, r5, r6) := by first | (rw [hy220]; with_reducible exact H) | (have H2_ := (Option.bind_some _ _).symm.trans H; rw [hy220]; with_reducible exact H2_) | (have H2_ := (Option.bind_some _ _).symm.trans H; with_reducible exact H2_) | with_reducible exact H | (rw [hy220]; exact H) | exact H
  have Ny220 := Aside0.mk hy220
  clear hy220
  by_cases c3 : y220.length + l0_4.length < 5864062014805
  ·rw [if_pos c3] at H
   have LMc3 := Aside0.mk c3
   clear c3
   obtain ⟨y223, hy223⟩ : ∃ y_ : List (S82), y_ = (y220 ++ l0_4) := ⟨_, rfl⟩
   replace H : ((some (([] : List (S90)) : List (S90))).bind fun y226 => (if y226.length + l0_5.length < 4398046511104 then (some (a0_0, a0_1, a0_2, y217, y223, (y226 ++ l0_5))) else (none))) = some (r1, r2, r3, r4, r5, r6) := by first | (rw [hy223]; with_reducible exact H) | (have H2_ := (Option.bind_some _ _).symm.trans H; rw [hy223]; with_reducible exact H2_) | (have H2_ := (Option.bind_some _ _).symm.trans H; with_reducible exact H2_) | with_reducible exact H | (rw [hy223]; exact H) | exact H
   have Ny223 := Aside0.mk hy223
   clear hy223
   obtain ⟨y226, hy226⟩ : ∃ y_ : List (S90), y_ = (([] : List (S90))) := ⟨_, rfl⟩
   replace H : (if y226.length + l0_5.length < 4398046511104 then (some (a0_0, a0_1, a0_2, y217, y223, (y226 ++ l0_5))) else (none)) = some (r1, r2, r3, r4, r5, r6) := by first | (rw [hy226]; with_reducible exact H) | (have H2_ := (Option.bind_some _ _).symm.trans H; rw [hy226]; with_reducible exact H2_) | (have H2_ := (Option.bind_some _ _).symm.trans H; with_reducible exact H2_) | with_reducible exact H | (rw [hy226]; exact H) | exact H
   have Ny226 := Aside0.mk hy226
   clear hy226
   by_cases c4 : y226.length + l0_5.length < 4398046511104
   ·rw [if_pos c4] at H
    have LMc4 := Aside0.mk c4
    clear c4
    obtain ⟨y229, hy229⟩ : ∃ y_ : List (S90), y_ = (y226 ++ l0_5) := ⟨_, rfl⟩
    replace H : (some (a0_0, a0_1, a0_2, y217, y223, y229)) = some (r1, r2, r3, r4, r5, r6) := by first | (rw [hy229]; with_reducible exact H) | (have H2_ := (Option.bind_some _ _).symm.trans H; rw [hy229]; with_reducible exact H2_) | (have H2_ := (Option.bind_some _ _).symm.trans H; with_reducible exact H2_) | with_reducible exact H | (rw [hy229]; exact H) | exact H
    have Ny229 := Aside0.mk hy229
    clear hy229
    simp only [Option.some.injEq, Prod.mk.injEq] at H
    obtain ⟨rfl, rfl, rfl, rfl, rfl, rfl⟩ := H
    go_enter Try.func37, Try.ntmps37
    go_wp2_with (first | ((with_reducible refine gate_dst (N := 1) rfl ?_); refine bx_ 1 #[.int .i64 a0_0, .int .i64 a0_1, .int .i64 a0_2, .slice A0_3 l0_3.length c0_3, .slice A0_4 l0_4.length c0_4, .slice A0_5 l0_5.length c0_5] 40 ?_; intro gb211 hg w5 hbox hb; have BK211 := Aside0.mk (hbox); have GW211 := gs_ hg; have GE211 := gs_ hg; replace HB := Aside0.mk (below_step oB hb); clear hb hbox hg) | ((with_reducible refine gate_dst (N := 2) rfl ?_); refine bx_ 2 #[.int .i64 0, .int .i64 0, .int .i64 0, .slice none 0 0, .slice none 0 0, .slice none 0 0] 40 ?_; intro gb212 hg w6 hbox hb; have BK212 := Aside0.mk (hbox); have GW212 := gs_ hg; have GE212 := gs_ hg; have NB211_212 := nl_ hg BK211; have NB212_211 := nr_ hg BK211; replace BK211 := kb_ BK211 hb; replace HB := Aside0.mk (below_step oB hb); clear hb hbox hg; have hnb7 := NB211_212.out; have hnc7 := NB212_211.out; obtain ⟨⟨_, _, _, _, _, _⟩, _, _, _, _, _, _⟩ := z6 BK211) | ((with_reducible refine gate_dst (N := 3) rfl ?_); refine bx_ 3 #[.int .i64 0, .int .i64 0, .int .i64 0, .slice none 0 0, .slice none 0 0, .slice none 0 0] 40 ?_; intro gb213 hg w9 hbox hb; have BK213 := Aside0.mk (hbox); have GW213 := gs_ hg; have GE213 := gs_ hg; have NB211_213 := nl_ hg BK211; have NB213_211 := nr_ hg BK211; have NB212_213 := nl_ hg BK212; have NB213_212 := nr_ hg BK212; replace BK211 := kb_ BK211 hb; replace BK212 := kb_ BK212 hb; replace HB := Aside0.mk (below_step oB hb); clear hb hbox hg; have hnb10 := NB213_211.out; have hnc10 := NB211_213.out; have hnb11 := NB213_212.out; have hnc11 := NB212_213.out; obtain ⟨⟨_, _, _, _, _, _⟩, _, _, _, _, _, _⟩ := z6 BK213) | ((with_reducible refine gate_dst (N := 5) rfl ?_); refine Kd.R_lit (Kd.int .u8) _ 5 ?hg (N := 5) ?hd (xs := ([] : List Int)) (inner := []) (ok := fun _ => True) (okp := fun _ => True) ?hr ?hp (fun _ hk => hk) trivial (Below.refl _ _) (Nat.le_refl _) (by simp) ?_; (case hd => rfl); (case hg => rfl); (case hr => first | (go_simp; done) | (go_simp; rfl)); (case hp => exact (Reps.none _ _)); intro v215 w13 ho14 hb hg_ hnew_; clear hg_ hnew_; (first | rw [← Ny214.out] at ho14 | (simp only [Int.reduceToNat] at ho14; rw [← Ny214.out] at ho14)); have HO216 := Aside0.mk (Kd.R_lower ho14 (below_size oB)); replace BK211 := Aside0.mk (blk_below (g := gb211) (o := .cells #[.int .i64 a0_0, .int .i64 a0_1, .int .i64 a0_2, .slice A0_3 l0_3.length c0_3, .slice A0_4 l0_4.length c0_4, .slice A0_5 l0_5.length c0_5] 40 (0, 0)) (by (with_reducible repeat (first | refine blk_drewN ?_ _ | refine blk_drew ?_ | refine blk_alloc ?_ _)); refine blk_far ?_ NB211_213.out _; (with_reducible repeat (first | refine blk_drewN ?_ _ | refine blk_drew ?_ | refine blk_alloc ?_ _)); refine blk_far ?_ NB211_213.out _; (with_reducible repeat (first | refine blk_drewN ?_ _ | refine blk_drew ?_ | refine blk_alloc ?_ _)); refine blk_far ?_ NB211_213.out _; (with_reducible repeat (first | refine blk_drewN ?_ _ | refine blk_drew ?_ | refine blk_alloc ?_ _)); refine blk_far ?_ NB211_213.out _; (with_reducible repeat (first | refine blk_drewN ?_ _ | refine blk_drew ?_ | refine blk_alloc ?_ _)); refine blk_far ?_ NB211_213.out _; (with_reducible repeat (first | refine blk_drewN ?_ _ | refine blk_drew ?_ | refine blk_alloc ?_ _)); refine blk_far ?_ NB211_213.out _; (with_reducible repeat (first | refine blk_drewN ?_ _ | refine blk_drew ?_ | refine blk_alloc ?_ _)); exact BK211.out) hb); replace BK212 := Aside0.mk (blk_below (g := gb212) (o := .cells #[.int .i64 0, .int .i64 0, .int .i64 0, .slice none 0 0, .slice none 0 0, .slice none 0 0] 40 (0, 0)) (by (with_reducible repeat (first | refine blk_drewN ?_ _ | refine blk_drew ?_ | refine blk_alloc ?_ _)); refine blk_far ?_ NB212_213.out _; (with_reducible repeat (first | refine blk_drewN ?_ _ | refine blk_drew ?_ | refine blk_alloc ?_ _)); refine blk_far ?_ NB212_213.out _; (with_reducible repeat (first | refine blk_drewN ?_ _ | refine blk_drew ?_ | refine blk_alloc ?_ _)); refine blk_far ?_ NB212_213.out _; (with_reducible repeat (first | refine blk_drewN ?_ _ | refine blk_drew ?_ | refine blk_alloc ?_ _)); refine blk_far ?_ NB212_213.out _; (with_reducible repeat (first | refine blk_drewN ?_ _ | refine blk_drew ?_ | refine blk_alloc ?_ _)); refine blk_far ?_ NB212_213.out _; (with_reducible repeat (first | refine blk_drewN ?_ _ | refine blk_drew ?_ | refine blk_alloc ?_ _)); refine blk_far ?_ NB212_213.out _; (with_reducible repeat (first | refine blk_drewN ?_ _ | refine blk_drew ?_ | refine blk_alloc ?_ _)); exact BK212.out) hb); replace BK213 := Aside0.mk (blk_below (g := gb213) (o := .cells #[.int .i64 a0_0, .int .i64 a0_1, .int .i64 a0_2, .slice A0_3 l0_3.length c0_3, .slice A0_4 l0_4.length c0_4, .slice A0_5 l0_5.length c0_5] 40 (0, 0)) (by (with_reducible repeat (first | refine blk_drewN ?_ _ | refine blk_drew ?_ | refine blk_alloc ?_ _)); refine blk_put (cs := #[.int .i64 a0_0, .int .i64 a0_1, .int .i64 a0_2, .slice A0_3 l0_3.length c0_3, .slice A0_4 l0_4.length c0_4, .slice none 0 0]) ?_ 5 _ rfl; (with_reducible repeat (first | refine blk_drewN ?_ _ | refine blk_drew ?_ | refine blk_alloc ?_ _)); refine blk_put (cs := #[.int .i64 a0_0, .int .i64 a0_1, .int .i64 a0_2, .slice A0_3 l0_3.length c0_3, .slice none 0 0, .slice none 0 0]) ?_ 4 _ rfl; (with_reducible repeat (first | refine blk_drewN ?_ _ | refine blk_drew ?_ | refine blk_alloc ?_ _)); refine blk_put (cs := #[.int .i64 a0_0, .int .i64 a0_1, .int .i64 a0_2, .slice none 0 0, .slice none 0 0, .slice none 0 0]) ?_ 3 _ rfl; (with_reducible repeat (first | refine blk_drewN ?_ _ | refine blk_drew ?_ | refine blk_alloc ?_ _)); refine blk_put (cs := #[.int .i64 a0_0, .int .i64 a0_1, .int .i64 0, .slice none 0 0, .slice none 0 0, .slice none 0 0]) ?_ 2 _ rfl; (with_reducible repeat (first | refine blk_drewN ?_ _ | refine blk_drew ?_ | refine blk_alloc ?_ _)); refine blk_put (cs := #[.int .i64 a0_0, .int .i64 0, .int .i64 0, .slice none 0 0, .slice none 0 0, .slice none 0 0]) ?_ 1 _ rfl; (with_reducible repeat (first | refine blk_drewN ?_ _ | refine blk_drew ?_ | refine blk_alloc ?_ _)); refine blk_put (cs := #[.int .i64 0, .int .i64 0, .int .i64 0, .slice none 0 0, .slice none 0 0, .slice none 0 0]) ?_ 0 _ rfl; (with_reducible repeat (first | refine blk_drewN ?_ _ | refine blk_drew ?_ | refine blk_alloc ?_ _)); exact BK213.out) hb); replace HB := Aside0.mk (below_step oB hb); clear hb ho14; obtain ⟨⟨_, _, _, _, _, _⟩, _, _, _, _, _, _⟩ := z6 BK211) | ((with_reducible refine gate_builtin (b := .append) (xs := #[.tmp 5, .tmp 7]) rfl ?_); at_builtin; refine Kd.R_append_rows (Kd.int .u8) (w0 := w) w.heap.size rfl (.tmp 5) (.tmp 7) 25 5 (.int .u8 0) 1 rfl Try.underlying25 info5 rfl (by decide) (by omega) v215 y214 l0_3 _ _ _ (fun _ => True) (fun _ => False) rfl rfl ?aO ?aR (fun _ _ h => h) (fun _ h => h.elim) ?aF ?aB ?aS ?aL ?_; (case aR => repeat (first | exact (Kd.C_below HR0_3.out HB.out) | (with_reducible refine Kd.C_alloc ?_ _) | (with_reducible refine Kd.C_drewN ?_ _) | (with_reducible refine Kd.C_drew ?_))); (case aB => exact oB); (case aF => exact (fun _ _ => trivial)); (case aO => exact (oR HO216)); (case aS => exact (below_size oB)); (case aL => have := LMc2.out; omega); intro v218 w16 ho hb hg hat; rw [← Ny217.out] at ho; have HO219 := Aside0.mk (ho); replace BK211 := Aside0.mk (blk_grown (g := gb211) (o := .cells #[.int .i64 a0_0, .int .i64 a0_1, .int .i64 a0_2, .slice A0_3 l0_3.length c0_3, .slice A0_4 l0_4.length c0_4, .slice A0_5 l0_5.length c0_5] 40 (0, 0)) (oF BK211) hg (Kd.R_ne HO216.out BK211.out (by decide))); replace BK212 := Aside0.mk (blk_grown (g := gb212) (o := .cells #[.int .i64 0, .int .i64 0, .int .i64 0, .slice none 0 0, .slice none 0 0, .slice none 0 0] 40 (0, 0)) (oF BK212) hg (Kd.R_ne HO216.out BK212.out (by decide))); replace BK213 := Aside0.mk (blk_grown (g := gb213) (o := .cells #[.int .i64 a0_0, .int .i64 a0_1, .int .i64 a0_2, .slice A0_3 l0_3.length c0_3, .slice A0_4 l0_4.length c0_4, .slice A0_5 l0_5.length c0_5] 40 (0, 0)) (oF BK213) hg (Kd.R_ne HO216.out BK213.out (by decide))); replace HB := Aside0.mk (hb); clear HO216; clear ho hb hg hat; obtain ⟨Ao17, co17, eo17⟩ := Kd.R_slice HO219.out; subst eo17; obtain ⟨⟨_, _, _, _, _, _⟩, _, _, _, _, _, _⟩ := z6 BK213) | ((with_reducible refine gate_dst (N := 10) rfl ?_); refine Kd.R_lit k82 _ 82 ?hg (N := 10) ?hd (xs := ([] : List (S82))) (inner := []) (ok := fun _ => True) (okp := fun _ => True) ?hr ?hp (fun _ hk => hk) trivial (Below.refl _ _) (Nat.le_refl _) (by simp) ?_; (case hd => rfl); (case hg => rfl); (case hr => first | (go_simp; done) | (go_simp; rfl)); (case hp => exact (Reps.none _ _)); intro v221 w19 ho20 hb hg_ hnew_; clear hg_ hnew_; (first | rw [← Ny220.out] at ho20 | (simp only [Int.reduceToNat] at ho20; rw [← Ny220.out] at ho20)); have HO222 := Aside0.mk (Kd.R_lower ho20 (below_size oB)); replace HO219 := Aside0.mk (Kd.R_below (by (with_reducible repeat (first | apply Kd.R_alloc | apply Kd.R_drewN | apply Kd.R_drew)); exact (Kd.R_mono (Kd.R_far (p := ⟨gb213, 3, none⟩) (Kd.R_types HO219.out BK213.out (by decide)) (fun _ hk => hk.2) (.slice Ao17 y217.length co17)) (fun _ h_ => h_.1))) hb); replace BK211 := Aside0.mk (blk_below (g := gb211) (o := .cells #[.int .i64 a0_0, .int .i64 a0_1, .int .i64 a0_2, .slice A0_3 l0_3.length c0_3, .slice A0_4 l0_4.length c0_4, .slice A0_5 l0_5.length c0_5] 40 (0, 0)) (by (with_reducible repeat (first | refine blk_drewN ?_ _ | refine blk_drew ?_ | refine blk_alloc ?_ _)); refine blk_far ?_ NB211_213.out _; (with_reducible repeat (first | refine blk_drewN ?_ _ | refine blk_drew ?_ | refine blk_alloc ?_ _)); exact BK211.out) hb); replace BK212 := Aside0.mk (blk_below (g := gb212) (o := .cells #[.int .i64 0, .int .i64 0, .int .i64 0, .slice none 0 0, .slice none 0 0, .slice none 0 0] 40 (0, 0)) (by (with_reducible repeat (first | refine blk_drewN ?_ _ | refine blk_drew ?_ | refine blk_alloc ?_ _)); refine blk_far ?_ NB212_213.out _; (with_reducible repeat (first | refine blk_drewN ?_ _ | refine blk_drew ?_ | refine blk_alloc ?_ _)); exact BK212.out) hb); replace BK213 := Aside0.mk (blk_below (g := gb213) (o := .cells #[.int .i64 a0_0, .int .i64 a0_1, .int .i64 a0_2, .slice Ao17 y217.length co17, .slice A0_4 l0_4.length c0_4, .slice A0_5 l0_5.length c0_5] 40 (0, 0)) (by (with_reducible repeat (first | refine blk_drewN ?_ _ | refine blk_drew ?_ | refine blk_alloc ?_ _)); refine blk_put (cs := #[.int .i64 a0_0, .int .i64 a0_1, .int .i64 a0_2, .slice A0_3 l0_3.length c0_3, .slice A0_4 l0_4.length c0_4, .slice A0_5 l0_5.length c0_5]) ?_ 3 _ rfl; (with_reducible repeat (first | refine blk_drewN ?_ _ | refine blk_drew ?_ | refine blk_alloc ?_ _)); exact BK213.out) hb); replace HB := Aside0.mk (below_step oB hb); clear hb ho20; obtain ⟨⟨_, _, _, _, _, _⟩, _, _, _, _, _, _⟩ := z6 BK211) | ((with_reducible refine gate_builtin (b := .append) (xs := #[.tmp 10, .tmp 12]) rfl ?_); at_builtin; refine Kd.R_append_rows k82 (w0 := w) w.heap.size rfl (.tmp 10) (.tmp 12) 37 82 (.agg #[(.string ⟨#[]⟩), (.int .i64 0)]) 24 rfl Try.underlying37 info82 rfl (by decide) (by omega) v221 y220 l0_4 _ _ _ (fun _ => True) (fun _ => False) rfl rfl ?aO ?aR (fun _ _ h => h) (fun _ h => h.elim) ?aF ?aB ?aS ?aL ?_; (case aR => repeat (first | exact (Kd.C_below HR0_4.out HB.out) | (with_reducible refine Kd.C_alloc ?_ _) | (with_reducible refine Kd.C_drewN ?_ _) | (with_reducible refine Kd.C_drew ?_))); (case aB => exact oB); (case aF => exact (fun _ _ => trivial)); (case aO => exact (oR HO222)); (case aS => exact (below_size oB)); (case aL => have := LMc3.out; omega); intro v224 w22 ho hb hg hat; rw [← Ny223.out] at ho; have HO225 := Aside0.mk (ho); replace BK211 := Aside0.mk (blk_grown (g := gb211) (o := .cells #[.int .i64 a0_0, .int .i64 a0_1, .int .i64 a0_2, .slice A0_3 l0_3.length c0_3, .slice A0_4 l0_4.length c0_4, .slice A0_5 l0_5.length c0_5] 40 (0, 0)) (oF BK211) hg (Kd.R_ne HO222.out BK211.out (by decide))); replace BK212 := Aside0.mk (blk_grown (g := gb212) (o := .cells #[.int .i64 0, .int .i64 0, .int .i64 0, .slice none 0 0, .slice none 0 0, .slice none 0 0] 40 (0, 0)) (oF BK212) hg (Kd.R_ne HO222.out BK212.out (by decide))); replace BK213 := Aside0.mk (blk_grown (g := gb213) (o := .cells #[.int .i64 a0_0, .int .i64 a0_1, .int .i64 a0_2, .slice Ao17 y217.length co17, .slice A0_4 l0_4.length c0_4, .slice A0_5 l0_5.length c0_5] 40 (0, 0)) (oF BK213) hg (Kd.R_ne HO222.out BK213.out (by decide))); replace HO219 := Aside0.mk (Kd.R_over' (oR HO219) (Kd.R_typed (oR HO222)) (by decide) hg); replace HB := Aside0.mk (hb); clear HO222; clear ho hb hg hat; obtain ⟨Ao23, co23, eo23⟩ := Kd.R_slice HO225.out; subst eo23; obtain ⟨⟨_, _, _, _, _, _⟩, _, _, _, _, _, _⟩ := z6 BK213) | ((with_reducible refine gate_dst (N := 15) rfl ?_); refine Kd.R_lit k90 _ 90 ?hg (N := 15) ?hd (xs := ([] : List (S90))) (inner := []) (ok := fun _ => True) (okp := fun _ => True) ?hr ?hp (fun _ hk => hk) trivial (Below.refl _ _) (Nat.le_refl _) (by simp) ?_; (case hd => rfl); (case hg => rfl); (case hr => first | (go_simp; done) | (go_simp; rfl)); (case hp => exact (Reps.none _ _)); intro v227 w25 ho26 hb hg_ hnew_; clear hg_ hnew_; (first | rw [← Ny226.out] at ho26 | (simp only [Int.reduceToNat] at ho26; rw [← Ny226.out] at ho26)); have HO228 := Aside0.mk (Kd.R_lower ho26 (below_size oB)); replace HO219 := Aside0.mk (Kd.R_below (by (with_reducible repeat (first | apply Kd.R_alloc | apply Kd.R_drewN | apply Kd.R_drew)); exact (Kd.R_mono (Kd.R_far (p := ⟨gb213, 4, none⟩) (Kd.R_types HO219.out BK213.out (by decide)) (fun _ hk => hk.2) (.slice Ao23 y223.length co23)) (fun _ h_ => h_.1))) hb); replace HO225 := Aside0.mk (Kd.R_below (by (with_reducible repeat (first | apply Kd.R_alloc | apply Kd.R_drewN | apply Kd.R_drew)); exact (Kd.R_mono (Kd.R_far (p := ⟨gb213, 4, none⟩) (Kd.R_types HO225.out BK213.out (by decide)) (fun _ hk => hk.2) (.slice Ao23 y223.length co23)) (fun _ h_ => h_.1))) hb); replace BK211 := Aside0.mk (blk_below (g := gb211) (o := .cells #[.int .i64 a0_0, .int .i64 a0_1, .int .i64 a0_2, .slice A0_3 l0_3.length c0_3, .slice A0_4 l0_4.length c0_4, .slice A0_5 l0_5.length c0_5] 40 (0, 0)) (by (with_reducible repeat (first | refine blk_drewN ?_ _ | refine blk_drew ?_ | refine blk_alloc ?_ _)); refine blk_far ?_ NB211_213.out _; (with_reducible repeat (first | refine blk_drewN ?_ _ | refine blk_drew ?_ | refine blk_alloc ?_ _)); exact BK211.out) hb); replace BK212 := Aside0.mk (blk_below (g := gb212) (o := .cells #[.int .i64 0, .int .i64 0, .int .i64 0, .slice none 0 0, .slice none 0 0, .slice none 0 0] 40 (0, 0)) (by (with_reducible repeat (first | refine blk_drewN ?_ _ | refine blk_drew ?_ | refine blk_alloc ?_ _)); refine blk_far ?_ NB212_213.out _; (with_reducible repeat (first | refine blk_drewN ?_ _ | refine blk_drew ?_ | refine blk_alloc ?_ _)); exact BK212.out) hb); replace BK213 := Aside0.mk (blk_below (g := gb213) (o := .cells #[.int .i64 a0_0, .int .i64 a0_1, .int .i64 a0_2, .slice Ao17 y217.length co17, .slice Ao23 y223.length co23, .slice A0_5 l0_5.length c0_5] 40 (0, 0)) (by (with_reducible repeat (first | refine blk_drewN ?_ _ | refine blk_drew ?_ | refine blk_alloc ?_ _)); refine blk_put (cs := #[.int .i64 a0_0, .int .i64 a0_1, .int .i64 a0_2, .slice Ao17 y217.length co17, .slice A0_4 l0_4.length c0_4, .slice A0_5 l0_5.length c0_5]) ?_ 4 _ rfl; (with_reducible repeat (first | refine blk_drewN ?_ _ | refine blk_drew ?_ | refine blk_alloc ?_ _)); exact BK213.out) hb); replace HB := Aside0.mk (below_step oB hb); clear hb ho26; obtain ⟨⟨_, _, _, _, _, _⟩, _, _, _, _, _, _⟩ := z6 BK211) | ((with_reducible refine gate_builtin (b := .append) (xs := #[.tmp 15, .tmp 17]) rfl ?_); at_builtin; refine Kd.R_append_rows k90 (w0 := w) w.heap.size rfl (.tmp 15) (.tmp 17) 38 90 (.agg #[(.string ⟨#[]⟩), (.string ⟨#[]⟩)]) 32 rfl Try.underlying38 info90 rfl (by decide) (by omega) v227 y226 l0_5 _ _ _ (fun _ => True) (fun _ => False) rfl rfl ?aO ?aR (fun _ _ h => h) (fun _ h => h.elim) ?aF ?aB ?aS ?aL ?_; (case aR => repeat (first | exact (Kd.C_below HR0_5.out HB.out) | (with_reducible refine Kd.C_alloc ?_ _) | (with_reducible refine Kd.C_drewN ?_ _) | (with_reducible refine Kd.C_drew ?_))); (case aB => exact oB); (case aF => exact (fun _ _ => trivial)); (case aO => exact (oR HO228)); (case aS => exact (below_size oB)); (case aL => have := LMc4.out; omega); intro v230 w28 ho hb hg hat; rw [← Ny229.out] at ho; have HO231 := Aside0.mk (ho); replace BK211 := Aside0.mk (blk_grown (g := gb211) (o := .cells #[.int .i64 a0_0, .int .i64 a0_1, .int .i64 a0_2, .slice A0_3 l0_3.length c0_3, .slice A0_4 l0_4.length c0_4, .slice A0_5 l0_5.length c0_5] 40 (0, 0)) (oF BK211) hg (Kd.R_ne HO228.out BK211.out (by decide))); replace BK212 := Aside0.mk (blk_grown (g := gb212) (o := .cells #[.int .i64 0, .int .i64 0, .int .i64 0, .slice none 0 0, .slice none 0 0, .slice none 0 0] 40 (0, 0)) (oF BK212) hg (Kd.R_ne HO228.out BK212.out (by decide))); replace BK213 := Aside0.mk (blk_grown (g := gb213) (o := .cells #[.int .i64 a0_0, .int .i64 a0_1, .int .i64 a0_2, .slice Ao17 y217.length co17, .slice Ao23 y223.length co23, .slice A0_5 l0_5.length c0_5] 40 (0, 0)) (oF BK213) hg (Kd.R_ne HO228.out BK213.out (by decide))); replace HO219 := Aside0.mk (Kd.R_over' (oR HO219) (Kd.R_typed (oR HO228)) (by decide) hg); replace HO225 := Aside0.mk (Kd.R_over' (oR HO225) (Kd.R_typed (oR HO228)) (by decide) hg); replace HB := Aside0.mk (hb); clear HO228; clear ho hb hg hat; obtain ⟨Ao29, co29, eo29⟩ := Kd.R_slice HO231.out; subst eo29; obtain ⟨⟨_, _, _, _, _, _⟩, _, _, _, _, _, _⟩ := z6 BK213; obtain ⟨⟨_, _, _, _, _, _⟩, _, _, _, _, _, _⟩ := z6 BK212))
    refine bodyPost_ret (results_cell_row rfl _ _ gb212 40 #[.int .i64 a0_0, .int .i64 a0_1, .int .i64 a0_2, .slice Ao17 y217.length co17, .slice Ao23 y223.length co23, .slice Ao29 y229.length co29] (0, 0) _ rfl (by (with_reducible repeat (first | refine blk_drewN ?_ _ | refine blk_drew ?_ | refine blk_alloc ?_ _)); refine blk_put (cs := #[.int .i64 a0_0, .int .i64 a0_1, .int .i64 a0_2, .slice Ao17 y217.length co17, .slice Ao23 y223.length co23, .slice none 0 0]) ?_ 5 _ rfl; (with_reducible repeat (first | refine blk_drewN ?_ _ | refine blk_drew ?_ | refine blk_alloc ?_ _)); refine blk_put (cs := #[.int .i64 a0_0, .int .i64 a0_1, .int .i64 a0_2, .slice Ao17 y217.length co17, .slice none 0 0, .slice none 0 0]) ?_ 4 _ rfl; (with_reducible repeat (first | refine blk_drewN ?_ _ | refine blk_drew ?_ | refine blk_alloc ?_ _)); refine blk_put (cs := #[.int .i64 a0_0, .int .i64 a0_1, .int .i64 a0_2, .slice none 0 0, .slice none 0 0, .slice none 0 0]) ?_ 3 _ rfl; (with_reducible repeat (first | refine blk_drewN ?_ _ | refine blk_drew ?_ | refine blk_alloc ?_ _)); refine blk_put (cs := #[.int .i64 a0_0, .int .i64 a0_1, .int .i64 0, .slice none 0 0, .slice none 0 0, .slice none 0 0]) ?_ 2 _ rfl; (with_reducible repeat (first | refine blk_drewN ?_ _ | refine blk_drew ?_ | refine blk_alloc ?_ _)); refine blk_put (cs := #[.int .i64 a0_0, .int .i64 0, .int .i64 0, .slice none 0 0, .slice none 0 0, .slice none 0 0]) ?_ 1 _ rfl; (with_reducible repeat (first | refine blk_drewN ?_ _ | refine blk_drew ?_ | refine blk_alloc ?_ _)); refine blk_put (cs := #[.int .i64 0, .int .i64 0, .int .i64 0, .slice none 0 0, .slice none 0 0, .slice none 0 0]) ?_ 0 _ rfl; (with_reducible repeat (first | refine blk_drewN ?_ _ | refine blk_drew ?_ | refine blk_alloc ?_ _)); refine blk_far ?_ NB212_213.out _; (with_reducible repeat (first | refine blk_drewN ?_ _ | refine blk_drew ?_ | refine blk_alloc ?_ _)); exact BK212.out) Try.underlying40 rfl (by kernel_rfl)) rfl ?_
    exact ⟨_, _, _, oE, by (with_reducible repeat (first | apply Kd.R_alloc | apply Kd.R_drewN | apply Kd.R_drew)); exact Kd.R_mono (Kd.R_far (p := ⟨gb212, 5, none⟩) (Kd.R_far (p := ⟨gb212, 4, none⟩) (Kd.R_far (p := ⟨gb212, 3, none⟩) (Kd.R_far (p := ⟨gb212, 2, none⟩) (Kd.R_far (p := ⟨gb212, 1, none⟩) (Kd.R_far (p := ⟨gb212, 0, none⟩) (Kd.R_far (p := ⟨gb213, 5, none⟩) (Kd.R_types (Kd.R_types HO219.out BK213.out (by decide)) BK212.out (by decide)) (fun _ hk => hk.1.2) (.slice Ao29 y229.length co29)) (fun _ hk => hk.2) (.int .i64 a0_0)) (fun _ hk => hk.2) (.int .i64 a0_1)) (fun _ hk => hk.2) (.int .i64 a0_2)) (fun _ hk => hk.2) (.slice Ao17 y217.length co17)) (fun _ hk => hk.2) (.slice Ao23 y223.length co23)) (fun _ hk => hk.2) (.slice Ao29 y229.length co29)) (fun _ hk => trivial), by (with_reducible repeat (first | apply Kd.R_alloc | apply Kd.R_drewN | apply Kd.R_drew)); exact Kd.R_mono (Kd.R_far (p := ⟨gb212, 5, none⟩) (Kd.R_far (p := ⟨gb212, 4, none⟩) (Kd.R_far (p := ⟨gb212, 3, none⟩) (Kd.R_far (p := ⟨gb212, 2, none⟩) (Kd.R_far (p := ⟨gb212, 1, none⟩) (Kd.R_far (p := ⟨gb212, 0, none⟩) (Kd.R_far (p := ⟨gb213, 5, none⟩) (Kd.R_types (Kd.R_types HO225.out BK213.out (by decide)) BK212.out (by decide)) (fun _ hk => hk.1.2) (.slice Ao29 y229.length co29)) (fun _ hk => hk.2) (.int .i64 a0_0)) (fun _ hk => hk.2) (.int .i64 a0_1)) (fun _ hk => hk.2) (.int .i64 a0_2)) (fun _ hk => hk.2) (.slice Ao17 y217.length co17)) (fun _ hk => hk.2) (.slice Ao23 y223.length co23)) (fun _ hk => hk.2) (.slice Ao29 y229.length co29)) (fun _ hk => trivial), by (with_reducible repeat (first | apply Kd.R_alloc | apply Kd.R_drewN | apply Kd.R_drew)); exact Kd.R_mono (Kd.R_far (p := ⟨gb212, 5, none⟩) (Kd.R_far (p := ⟨gb212, 4, none⟩) (Kd.R_far (p := ⟨gb212, 3, none⟩) (Kd.R_far (p := ⟨gb212, 2, none⟩) (Kd.R_far (p := ⟨gb212, 1, none⟩) (Kd.R_far (p := ⟨gb212, 0, none⟩) (Kd.R_far (p := ⟨gb213, 5, none⟩) (Kd.R_types (Kd.R_types HO231.out BK213.out (by decide)) BK212.out (by decide)) (fun _ hk => hk.1.2) (.slice Ao29 y229.length co29)) (fun _ hk => hk.2) (.int .i64 a0_0)) (fun _ hk => hk.2) (.int .i64 a0_1)) (fun _ hk => hk.2) (.int .i64 a0_2)) (fun _ hk => hk.2) (.slice Ao17 y217.length co17)) (fun _ hk => hk.2) (.slice Ao23 y223.length co23)) (fun _ hk => hk.2) (.slice Ao29 y229.length co29)) (fun _ hk => trivial), oB⟩
   ·rw [if_neg c4] at H
    exact absurd H (by simp)
  ·rw [if_neg c3] at H
   exact absurd H (by simp)
 ·rw [if_neg c2] at H
  exact absurd H (by simp)

end Go.Proofs.Ytmndnegpclaidaa.P
