-- By this session's own program (wip/myprint.py) out of the translation; Lean checks it.
import Derived.Test.YtmndnegpclaidaaPx0
import Derived.Test.YtmndnegpclaidaaPx1
namespace Go.Proofs.Ytmndnegpclaidaa.P
open Go.RowKit Go.Proofs.YtmndnegpclaidaaW.PrintWords Go.Proofs.YtmndnegpclaidaaW.PrintLast Go.Proofs.YtmndnegpclaidaaW.PrintMore
attribute [local go_sem] max2_int min2_int max_two min_two max_three min_three max_four min_four   -- for this text's walks alone
set_option linter.unusedVariables false
set_option linter.unusedSimpArgs false

/-! ### laws_eqAttrS: function 51 -/
def laws_eqAttrS.l0 : Nat → List (S90) → List (S90) → Int → Option (Bool)
 | 0, _, _, _ => none
 | k + 1, x0, x1, x5 => if x5 < (x0.length : Int) then (if 0 ≤ x5 then (if x5 < (x1.length : Int) then ((laws_eqAttr.f ((rd_T90 x0 x5).f0) ((rd_T90 x0 x5).f1) ((rd_T90 x1 x5).f0) ((rd_T90 x1 x5).f1)).bind fun t186 => (if t186 = true then (laws_eqAttrS.l0 k x0 x1 (wrap64 (x5 + 1))) else (some false))) else (none)) else (none)) else (some true)
def laws_eqAttrS.f (k : Nat) (l0 : List (S90)) (l1 : List (S90)) : Option (Bool) := if (l0.length : Int) = (l1.length : Int) then (laws_eqAttrS.l0 k l0 l1 0) else (some false)
def laws_eqAttrS.T6 : Bool × List (List Nat × List Nat) := (true, [([], []), ([], []), ([0, 1], [0, 1]), ([2], [2]), ([], []), ([], []), ([4, 5], [4, 5]), ([6], [6]), ([3, 7], [3, 7]), ([8], [8])])
def laws_eqAttrS.B6 : List Nat := [0, 0, 3, 7, 0, 0, 48, 112, 255, 511]
theorem laws_eqAttrS.tab6 : rtab .any (opsOf Try.f51 6) = laws_eqAttrS.T6 := by kernel_rfl
theorem laws_eqAttrS.bits6 : waitsOk laws_eqAttrS.T6.2 laws_eqAttrS.B6 = true := by kernel_rfl
set_option maxHeartbeats 8000000 in
set_option maxRecDepth 100000 in
theorem laws_eqAttrS.calls (k : Nat) (A0 : Option Addr) (c0 : Nat) (l0 : List (S90)) (A1 : Option Addr) (c1 : Nat) (l1 : List (S90)) (r : Bool) (w : World) (hr0 : Kd.C k90 w A0 l0.length l0) (hc0 : l0.length ≤ c0) (hr1 : Kd.C k90 w A1 l1.length l1) (hc1 : l1.length ≤ c1) (h : laws_eqAttrS.f k l0 l1 = some r) :
  Calls Try.prog 51 #[.slice A0 l0.length c0, .slice A1 l1.length c1] w fun e w' => e = .returned (.bool r) ∧ Below w.heap.size w w' := by
 have hu90 := Try.underlying90
 have HR0 := Aside0.mk hr0
 have HC0 := Aside0.mk hc0
 clear hr0 hc0
 have HR1 := Aside0.mk hr1
 have HC1 := Aside0.mk hc1
 clear hr1 hc1
 have HB := Aside0.mk (Below.refl w.heap.size w)
 unfold laws_eqAttrS.f at h
 have H := h
 clear h
 by_cases c3 : (l0.length : Int) = (l1.length : Int)
 ·rw [if_pos c3] at H
  have c3b0 : ((l0.length : Int) == (l1.length : Int)) = true := beq_iff_eq.mpr c3
  have c3b1 : ((l0.length : Int) != (l1.length : Int)) = false := bne_eq_false_iff_eq.mpr c3
  have c3b2 : (l0.length == l1.length) = true := by first | simpa using c3 | (simp at c3 ⊢; omega)
  clear c3
  have H' := Aside0.mk H
  clear H
  go_enter Try.func51, Try.ntmps51
  go_wp2
  go_loopg [5] k (fun kq v5 w' => ∃ (x5_1 : Int), v5 = .int .i64 x5_1 ∧ Aside0 (laws_eqAttrS.l0 kq l0 l1 x5_1 = some r) ∧ Aside0 (kq ≤ k) ∧ Aside0 (Below w.heap.size w w'))
  case atStart => exact ⟨(0), oS, H', ⟨Nat.le_refl _⟩, ⟨oB⟩⟩
  case round =>
   clear H'
   try clear c1
   try clear c3
   obtain ⟨x5_1, rfl, HA, HK1, HB⟩ := hrel
   cases gk with
   | zero => exact absurd HA.out (by simp [laws_eqAttrS.l0])
   | succ k1 =>
    have H := HA.out
    clear HA
    simp only [laws_eqAttrS.l0] at H
    replace H := itD H
    rcases H with ⟨c4b0, H⟩ | ⟨c4b0, H⟩
    ·replace H := itD H
     rcases H with ⟨c5b0, H⟩ | ⟨c5b0, H⟩
     ·replace H := itD H
      rcases H with ⟨c6b0, H⟩ | ⟨c6b0, H⟩
      ·replace H := bA H
       obtain ⟨t186, A7, H⟩ := H
       try dsimp only at H
       replace H := itB H
       rcases H with ⟨rfl, H⟩ | ⟨rfl, H⟩
       ·have H' := Aside0.mk H
        clear H
        try go_wp2
        replace HB := Aside0.mk (below_drew1 HB.out)
        have p184 : (0 ≤ (x5_1 : Int)) = True := oT
        have q184 : (x5_1 < (l0.length : Int)) = True := oT
        obtain ⟨ad184, e184, hx184_0, hx184_1⟩ := at_T90 HR0.out x5_1 oa oa
        have hw184_1 := hx184_1
        have hw184_0 := hx184_0
        cases e184
        replace hx184_0 := cB HB hx184_0
        replace hx184_1 := cB HB hx184_1
        have p185 : (0 ≤ (x5_1 : Int)) = True := oT
        have q185 : (x5_1 < (l1.length : Int)) = True := oT
        obtain ⟨ad185, e185, hx185_0, hx185_1⟩ := at_T90 HR1.out x5_1 oa oa
        have hw185_1 := hx185_1
        have hw185_0 := hx185_0
        cases e185
        replace hx185_0 := cB HB hx185_0
        replace hx185_1 := cB HB hx185_1
        refine st_ 10 (fun w' => w'.cell? (ad184.add ((x5_1).toNat * 2)) = some (.string ((rd_T90 l0 x5_1).f0)) ∧ w'.cell? ⟨(ad184.add ((x5_1).toNat * 2)).block, (ad184.add ((x5_1).toNat * 2)).off + 1, none⟩ = some (.string ((rd_T90 l0 x5_1).f1)) ∧ w'.cell? (ad185.add ((x5_1).toNat * 2)) = some (.string ((rd_T90 l1 x5_1).f0)) ∧ w'.cell? ⟨(ad185.add ((x5_1).toNat * 2)).block, (ad185.add ((x5_1).toNat * 2)).off + 1, none⟩ = some (.string ((rd_T90 l1 x5_1).f1))) laws_eqAttrS.tab6 laws_eqAttrS.bits6 oH (fun hHeld HT_ HW_ => ?_)
        generalize wr.drew = w9 at HB hx184_0 hx184_1 hx185_0 hx185_1 hHeld ⊢
        refine pu_ 0 17 HT_ ?_
        refine pu_ 1 18 HT_ ?_
        refine pu_ 2 19 HT_ ?_
        refine pu_ 4 21 HT_ ?_
        refine pu_ 5 22 HT_ ?_
        refine pu_ 6 23 HT_ ?_
        refine ta_ 3 20 HT_ HW_ hHeld ?_
        refine ta_ 7 24 HT_ HW_ hHeld ?_
        refine on_ 8 25 HT_ (fun K hK => ?_)
        refine gr_ 25 Try.func84 (laws_eqAttr.calls ((rd_T90 l0 x5_1).f0) ((rd_T90 l0 x5_1).f1) ((rd_T90 l1 x5_1).f0) ((rd_T90 l1 x5_1).f1) true _ A7.out) ?_
        rintro e w10 ⟨rfl, hb⟩
        refine ⟨_, rfl, ?_⟩
        replace HB := Aside0.mk (below_step oB hb)
        refine hk_ hK 25 oH (fun hHeld => ?_)
        clear hK K
        refine pu_ 9 26 HT_ ?_
        refine dn_ HT_ ?_
        try go_wp2
        go_roundg k1
        case measure => have := HK1.out; omega
        case rel => exact ⟨(wrap64 (x5_1 + 1)), oS, H', ⟨by have := HK1.out; omega⟩, ⟨oB⟩⟩
       ·obtain rfl := Option.some.inj H
        try go_wp2
        replace HB := Aside0.mk (below_drew1 HB.out)
        have p184 : (0 ≤ (x5_1 : Int)) = True := oT
        have q184 : (x5_1 < (l0.length : Int)) = True := oT
        obtain ⟨ad184, e184, hx184_0, hx184_1⟩ := at_T90 HR0.out x5_1 oa oa
        have hw184_1 := hx184_1
        have hw184_0 := hx184_0
        cases e184
        replace hx184_0 := cB HB hx184_0
        replace hx184_1 := cB HB hx184_1
        have p185 : (0 ≤ (x5_1 : Int)) = True := oT
        have q185 : (x5_1 < (l1.length : Int)) = True := oT
        obtain ⟨ad185, e185, hx185_0, hx185_1⟩ := at_T90 HR1.out x5_1 oa oa
        have hw185_1 := hx185_1
        have hw185_0 := hx185_0
        cases e185
        replace hx185_0 := cB HB hx185_0
        replace hx185_1 := cB HB hx185_1
        refine st_ 10 (fun w' => w'.cell? (ad184.add ((x5_1).toNat * 2)) = some (.string ((rd_T90 l0 x5_1).f0)) ∧ w'.cell? ⟨(ad184.add ((x5_1).toNat * 2)).block, (ad184.add ((x5_1).toNat * 2)).off + 1, none⟩ = some (.string ((rd_T90 l0 x5_1).f1)) ∧ w'.cell? (ad185.add ((x5_1).toNat * 2)) = some (.string ((rd_T90 l1 x5_1).f0)) ∧ w'.cell? ⟨(ad185.add ((x5_1).toNat * 2)).block, (ad185.add ((x5_1).toNat * 2)).off + 1, none⟩ = some (.string ((rd_T90 l1 x5_1).f1))) laws_eqAttrS.tab6 laws_eqAttrS.bits6 oH (fun hHeld HT_ HW_ => ?_)
        generalize wr.drew = w11 at HB hx184_0 hx184_1 hx185_0 hx185_1 hHeld ⊢
        refine pu_ 0 17 HT_ ?_
        refine pu_ 1 18 HT_ ?_
        refine pu_ 2 19 HT_ ?_
        refine pu_ 4 21 HT_ ?_
        refine pu_ 5 22 HT_ ?_
        refine pu_ 6 23 HT_ ?_
        refine ta_ 3 20 HT_ HW_ hHeld ?_
        refine ta_ 7 24 HT_ HW_ hHeld ?_
        refine on_ 8 25 HT_ (fun K hK => ?_)
        refine gr_ 25 Try.func84 (laws_eqAttr.calls ((rd_T90 l0 x5_1).f0) ((rd_T90 l0 x5_1).f1) ((rd_T90 l1 x5_1).f0) ((rd_T90 l1 x5_1).f1) false _ A7.out) ?_
        rintro e w12 ⟨rfl, hb⟩
        refine ⟨_, rfl, ?_⟩
        replace HB := Aside0.mk (below_step oB hb)
        refine hk_ hK 25 oH (fun hHeld => ?_)
        clear hK K
        refine pu_ 9 26 HT_ ?_
        refine dn_ HT_ ?_
        try go_wp2
        go_ret
        exact ⟨oE, oB⟩
      ·cases H
     ·cases H
    ·obtain rfl := Option.some.inj H
     go_wp2
     go_ret
     exact ⟨oE, oB⟩
 ·rw [if_neg c3] at H
  have c3b0 : ((l0.length : Int) == (l1.length : Int)) = false := beq_eq_false_iff_ne.mpr c3
  have c3b1 : ((l0.length : Int) != (l1.length : Int)) = true := bne_iff_ne.mpr c3
  have c3b2 : (l0.length == l1.length) = false := by first | simpa using c3 | (simp at c3 ⊢; omega)
  obtain rfl := Option.some.inj H
  go_enter Try.func51, Try.ntmps51
  go_wp2
  go_ret
  exact ⟨oE, oB⟩

/-! ### laws_eqInode: function 14 -/
def laws_eqInode.f (k : Nat) (a0_0 : Int) (a0_1 : Int) (a0_2 : Int) (l0_3 : List Int) (l0_4 : List (S82)) (l0_5 : List (S90)) (a1_0 : Int) (a1_1 : Int) (a1_2 : Int) (l1_3 : List Int) (l1_4 : List (S82)) (l1_5 : List (S90)) : Option (Bool) := if a0_0 = a1_0 then (if a0_1 = a1_1 then (if a0_2 = a1_2 then ((laws_eqByteS.f k l0_3 l1_3).bind fun t189 => (if t189 = true then ((laws_eqEntS.f k l0_4 l1_4).bind fun t190 => (if t190 = true then ((laws_eqAttrS.f k l0_5 l1_5).bind fun t191 => (if t191 = true then (some true) else (some false))) else (some false))) else (some false))) else (some false)) else (some false)) else (some false)
set_option maxHeartbeats 8000000 in
set_option maxRecDepth 100000 in
theorem laws_eqInode.calls (k : Nat) (a0_0 : Int) (a0_1 : Int) (a0_2 : Int) (A0_3 : Option Addr) (c0_3 : Nat) (l0_3 : List Int) (A0_4 : Option Addr) (c0_4 : Nat) (l0_4 : List (S82)) (A0_5 : Option Addr) (c0_5 : Nat) (l0_5 : List (S90)) (a1_0 : Int) (a1_1 : Int) (a1_2 : Int) (A1_3 : Option Addr) (c1_3 : Nat) (l1_3 : List Int) (A1_4 : Option Addr) (c1_4 : Nat) (l1_4 : List (S82)) (A1_5 : Option Addr) (c1_5 : Nat) (l1_5 : List (S90)) (r : Bool) (w : World) (hr0_3 : Kd.C (Kd.int .u8) w A0_3 l0_3.length l0_3) (hc0_3 : l0_3.length ≤ c0_3) (hr0_4 : Kd.C k82 w A0_4 l0_4.length l0_4) (hc0_4 : l0_4.length ≤ c0_4) (hr0_5 : Kd.C k90 w A0_5 l0_5.length l0_5) (hc0_5 : l0_5.length ≤ c0_5) (hr1_3 : Kd.C (Kd.int .u8) w A1_3 l1_3.length l1_3) (hc1_3 : l1_3.length ≤ c1_3) (hr1_4 : Kd.C k82 w A1_4 l1_4.length l1_4) (hc1_4 : l1_4.length ≤ c1_4) (hr1_5 : Kd.C k90 w A1_5 l1_5.length l1_5) (hc1_5 : l1_5.length ≤ c1_5) (h : laws_eqInode.f k a0_0 a0_1 a0_2 l0_3 l0_4 l0_5 a1_0 a1_1 a1_2 l1_3 l1_4 l1_5 = some r) :
  Calls Try.prog 14 #[.agg #[.int .i64 a0_0, .int .i64 a0_1, .int .i64 a0_2, .slice A0_3 l0_3.length c0_3, .slice A0_4 l0_4.length c0_4, .slice A0_5 l0_5.length c0_5], .agg #[.int .i64 a1_0, .int .i64 a1_1, .int .i64 a1_2, .slice A1_3 l1_3.length c1_3, .slice A1_4 l1_4.length c1_4, .slice A1_5 l1_5.length c1_5]] w fun e w' => e = .returned (.bool r) ∧ Below w.heap.size w w' := by
 have hu40 := Try.underlying40
 have HR0_3 := Aside0.mk hr0_3
 have HC0_3 := Aside0.mk hc0_3
 clear hr0_3 hc0_3
 have HR0_4 := Aside0.mk hr0_4
 have HC0_4 := Aside0.mk hc0_4
 clear hr0_4 hc0_4
 have HR0_5 := Aside0.mk hr0_5
 have HC0_5 := Aside0.mk hc0_5
 clear hr0_5 hc0_5
 have HR1_3 := Aside0.mk hr1_3
 have HC1_3 := Aside0.mk hc1_3
 clear hr1_3 hc1_3
 have HR1_4 := Aside0.mk hr1_4
 have HC1_4 := Aside0.mk hc1_4
 clear hr1_4 hc1_4
 have HR1_5 := Aside0.mk hr1_5
 have HC1_5 := Aside0.mk hc1_5
 clear hr1_5 hc1_5
 have HB := Aside0.mk (Below.refl w.heap.size w)
 unfold laws_eqInode.f at h
 have H := h
 clear h
 by_cases c3 : a0_0 = a1_0
 ·rw [if_pos c3] at H
  have c3b0 : (a0_0 == a1_0) = true := beq_iff_eq.mpr c3
  have c3b1 : (a0_0 != a1_0) = false := bne_eq_false_iff_eq.mpr c3
  clear c3
  by_cases c4 : a0_1 = a1_1
  ·rw [if_pos c4] at H
   have c4b0 : (a0_1 == a1_1) = true := beq_iff_eq.mpr c4
   have c4b1 : (a0_1 != a1_1) = false := bne_eq_false_iff_eq.mpr c4
   clear c4
   by_cases c5 : a0_2 = a1_2
   ·rw [if_pos c5] at H
    have c5b0 : (a0_2 == a1_2) = true := beq_iff_eq.mpr c5
    have c5b1 : (a0_2 != a1_2) = false := bne_eq_false_iff_eq.mpr c5
    clear c5
    replace H := bA H
    obtain ⟨t189, A6, H⟩ := H
    try dsimp only at H
    replace H := itB H
    rcases H with ⟨rfl, H⟩ | ⟨rfl, H⟩
    ·replace H := bA H
     obtain ⟨t190, A8, H⟩ := H
     try dsimp only at H
     replace H := itB H
     rcases H with ⟨rfl, H⟩ | ⟨rfl, H⟩
     ·replace H := bA H
      obtain ⟨t191, A10, H⟩ := H
      try dsimp only at H
      replace H := itB H
      rcases H with ⟨rfl, H⟩ | ⟨rfl, H⟩
      ·obtain rfl := Option.some.inj H
       go_enter Try.func14, Try.ntmps14
       go_wp2_with (first | ((with_reducible refine gate_dst (N := 2) rfl ?_); refine bx_ 2 #[.int .i64 a0_0, .int .i64 a0_1, .int .i64 a0_2, .slice A0_3 l0_3.length c0_3, .slice A0_4 l0_4.length c0_4, .slice A0_5 l0_5.length c0_5] 40 ?_; intro gb187 hg w12 hbox hb; have BK187 := Aside0.mk (hbox); have GW187 := gs_ hg; replace HB := Aside0.mk (below_step oB hb); clear hb hbox hg) | ((with_reducible refine gate_dst (N := 3) rfl ?_); refine bx_ 3 #[.int .i64 a1_0, .int .i64 a1_1, .int .i64 a1_2, .slice A1_3 l1_3.length c1_3, .slice A1_4 l1_4.length c1_4, .slice A1_5 l1_5.length c1_5] 40 ?_; intro gb188 hg w13 hbox hb; have BK188 := Aside0.mk (hbox); have GW188 := gs_ hg; have NB187_188 := nl_ hg BK187; have NB188_187 := nr_ hg BK187; replace BK187 := kb_ BK187 hb; replace HB := Aside0.mk (below_step oB hb); clear hb hbox hg; have hnb14 := NB187_188.out; have hnc14 := NB188_187.out; obtain ⟨⟨_, _, _, _, _, _⟩, _, _, _, _, _, _⟩ := z6 BK187; obtain ⟨⟨_, _, _, _, _, _⟩, _, _, _, _, _, _⟩ := z6 BK188) | ((with_reducible refine gate_callee (f := 49) rfl ?_); refine gl_ 24 Try.func49 (laws_eqByteS.calls k _ _ l0_3 _ _ l1_3 true _ (kC HR0_3) HC0_3.out (kC HR1_3) HC1_3.out A6.out) ?_; rintro e w' ⟨rfl, ⟨nd, rfl⟩⟩; refine ⟨_, rfl, ?_⟩) | ((with_reducible refine gate_callee (f := 50) rfl ?_); refine gl_ 30 Try.func50 (laws_eqEntS.calls k _ _ l0_4 _ _ l1_4 true _ (kC HR0_4) HC0_4.out (kC HR1_4) HC1_4.out A8.out) ?_; rintro e w17 ⟨rfl, hb⟩; refine ⟨_, rfl, ?_⟩; replace BK187 := kb_ BK187 hb; replace BK188 := kb_ BK188 hb; replace HB := Aside0.mk (below_step oB hb); obtain ⟨⟨_, _, _, _, _, _⟩, _, _, _, _, _, _⟩ := z6 BK187; obtain ⟨⟨_, _, _, _, _, _⟩, _, _, _, _, _, _⟩ := z6 BK188) | ((with_reducible refine gate_callee (f := 51) rfl ?_); refine gl_ 36 Try.func51 (laws_eqAttrS.calls k _ _ l0_5 _ _ l1_5 true _ (kC HR0_5) HC0_5.out (kC HR1_5) HC1_5.out A10.out) ?_; rintro e w20 ⟨rfl, hb⟩; refine ⟨_, rfl, ?_⟩; replace BK187 := kb_ BK187 hb; replace BK188 := kb_ BK188 hb; replace HB := Aside0.mk (below_step oB hb)))
       go_ret
       exact ⟨oE, oB⟩
      ·obtain rfl := Option.some.inj H
       go_enter Try.func14, Try.ntmps14
       go_wp2_with (first | ((with_reducible refine gate_dst (N := 2) rfl ?_); refine bx_ 2 #[.int .i64 a0_0, .int .i64 a0_1, .int .i64 a0_2, .slice A0_3 l0_3.length c0_3, .slice A0_4 l0_4.length c0_4, .slice A0_5 l0_5.length c0_5] 40 ?_; intro gb187 hg w21 hbox hb; have BK187 := Aside0.mk (hbox); have GW187 := gs_ hg; replace HB := Aside0.mk (below_step oB hb); clear hb hbox hg) | ((with_reducible refine gate_dst (N := 3) rfl ?_); refine bx_ 3 #[.int .i64 a1_0, .int .i64 a1_1, .int .i64 a1_2, .slice A1_3 l1_3.length c1_3, .slice A1_4 l1_4.length c1_4, .slice A1_5 l1_5.length c1_5] 40 ?_; intro gb188 hg w22 hbox hb; have BK188 := Aside0.mk (hbox); have GW188 := gs_ hg; have NB187_188 := nl_ hg BK187; have NB188_187 := nr_ hg BK187; replace BK187 := kb_ BK187 hb; replace HB := Aside0.mk (below_step oB hb); clear hb hbox hg; have hnb23 := NB187_188.out; have hnc23 := NB188_187.out; obtain ⟨⟨_, _, _, _, _, _⟩, _, _, _, _, _, _⟩ := z6 BK187; obtain ⟨⟨_, _, _, _, _, _⟩, _, _, _, _, _, _⟩ := z6 BK188) | ((with_reducible refine gate_callee (f := 49) rfl ?_); refine gl_ 24 Try.func49 (laws_eqByteS.calls k _ _ l0_3 _ _ l1_3 true _ (kC HR0_3) HC0_3.out (kC HR1_3) HC1_3.out A6.out) ?_; rintro e w' ⟨rfl, ⟨nd, rfl⟩⟩; refine ⟨_, rfl, ?_⟩) | ((with_reducible refine gate_callee (f := 50) rfl ?_); refine gl_ 30 Try.func50 (laws_eqEntS.calls k _ _ l0_4 _ _ l1_4 true _ (kC HR0_4) HC0_4.out (kC HR1_4) HC1_4.out A8.out) ?_; rintro e w26 ⟨rfl, hb⟩; refine ⟨_, rfl, ?_⟩; replace BK187 := kb_ BK187 hb; replace BK188 := kb_ BK188 hb; replace HB := Aside0.mk (below_step oB hb); obtain ⟨⟨_, _, _, _, _, _⟩, _, _, _, _, _, _⟩ := z6 BK187; obtain ⟨⟨_, _, _, _, _, _⟩, _, _, _, _, _, _⟩ := z6 BK188) | ((with_reducible refine gate_callee (f := 51) rfl ?_); refine gl_ 36 Try.func51 (laws_eqAttrS.calls k _ _ l0_5 _ _ l1_5 false _ (kC HR0_5) HC0_5.out (kC HR1_5) HC1_5.out A10.out) ?_; rintro e w29 ⟨rfl, hb⟩; refine ⟨_, rfl, ?_⟩; replace BK187 := kb_ BK187 hb; replace BK188 := kb_ BK188 hb; replace HB := Aside0.mk (below_step oB hb)))
       go_ret
       exact ⟨oE, oB⟩
     ·obtain rfl := Option.some.inj H
      go_enter Try.func14, Try.ntmps14
      go_wp2_with (first | ((with_reducible refine gate_dst (N := 2) rfl ?_); refine bx_ 2 #[.int .i64 a0_0, .int .i64 a0_1, .int .i64 a0_2, .slice A0_3 l0_3.length c0_3, .slice A0_4 l0_4.length c0_4, .slice A0_5 l0_5.length c0_5] 40 ?_; intro gb187 hg w30 hbox hb; have BK187 := Aside0.mk (hbox); have GW187 := gs_ hg; replace HB := Aside0.mk (below_step oB hb); clear hb hbox hg) | ((with_reducible refine gate_dst (N := 3) rfl ?_); refine bx_ 3 #[.int .i64 a1_0, .int .i64 a1_1, .int .i64 a1_2, .slice A1_3 l1_3.length c1_3, .slice A1_4 l1_4.length c1_4, .slice A1_5 l1_5.length c1_5] 40 ?_; intro gb188 hg w31 hbox hb; have BK188 := Aside0.mk (hbox); have GW188 := gs_ hg; have NB187_188 := nl_ hg BK187; have NB188_187 := nr_ hg BK187; replace BK187 := kb_ BK187 hb; replace HB := Aside0.mk (below_step oB hb); clear hb hbox hg; have hnb32 := NB187_188.out; have hnc32 := NB188_187.out; obtain ⟨⟨_, _, _, _, _, _⟩, _, _, _, _, _, _⟩ := z6 BK187; obtain ⟨⟨_, _, _, _, _, _⟩, _, _, _, _, _, _⟩ := z6 BK188) | ((with_reducible refine gate_callee (f := 49) rfl ?_); refine gl_ 24 Try.func49 (laws_eqByteS.calls k _ _ l0_3 _ _ l1_3 true _ (kC HR0_3) HC0_3.out (kC HR1_3) HC1_3.out A6.out) ?_; rintro e w' ⟨rfl, ⟨nd, rfl⟩⟩; refine ⟨_, rfl, ?_⟩) | ((with_reducible refine gate_callee (f := 50) rfl ?_); refine gl_ 30 Try.func50 (laws_eqEntS.calls k _ _ l0_4 _ _ l1_4 false _ (kC HR0_4) HC0_4.out (kC HR1_4) HC1_4.out A8.out) ?_; rintro e w35 ⟨rfl, hb⟩; refine ⟨_, rfl, ?_⟩; replace BK187 := kb_ BK187 hb; replace BK188 := kb_ BK188 hb; replace HB := Aside0.mk (below_step oB hb)))
      go_ret
      exact ⟨oE, oB⟩
    ·obtain rfl := Option.some.inj H
     go_enter Try.func14, Try.ntmps14
     go_wp2_with (first | ((with_reducible refine gate_dst (N := 2) rfl ?_); refine bx_ 2 #[.int .i64 a0_0, .int .i64 a0_1, .int .i64 a0_2, .slice A0_3 l0_3.length c0_3, .slice A0_4 l0_4.length c0_4, .slice A0_5 l0_5.length c0_5] 40 ?_; intro gb187 hg w36 hbox hb; have BK187 := Aside0.mk (hbox); have GW187 := gs_ hg; replace HB := Aside0.mk (below_step oB hb); clear hb hbox hg) | ((with_reducible refine gate_dst (N := 3) rfl ?_); refine bx_ 3 #[.int .i64 a1_0, .int .i64 a1_1, .int .i64 a1_2, .slice A1_3 l1_3.length c1_3, .slice A1_4 l1_4.length c1_4, .slice A1_5 l1_5.length c1_5] 40 ?_; intro gb188 hg w37 hbox hb; have BK188 := Aside0.mk (hbox); have GW188 := gs_ hg; have NB187_188 := nl_ hg BK187; have NB188_187 := nr_ hg BK187; replace BK187 := kb_ BK187 hb; replace HB := Aside0.mk (below_step oB hb); clear hb hbox hg; have hnb38 := NB187_188.out; have hnc38 := NB188_187.out; obtain ⟨⟨_, _, _, _, _, _⟩, _, _, _, _, _, _⟩ := z6 BK187; obtain ⟨⟨_, _, _, _, _, _⟩, _, _, _, _, _, _⟩ := z6 BK188) | ((with_reducible refine gate_callee (f := 49) rfl ?_); refine gl_ 24 Try.func49 (laws_eqByteS.calls k _ _ l0_3 _ _ l1_3 false _ (kC HR0_3) HC0_3.out (kC HR1_3) HC1_3.out A6.out) ?_; rintro e w' ⟨rfl, ⟨nd, rfl⟩⟩; refine ⟨_, rfl, ?_⟩))
     go_ret
     exact ⟨oE, oB⟩
   ·rw [if_neg c5] at H
    have c5b0 : (a0_2 == a1_2) = false := beq_eq_false_iff_ne.mpr c5
    have c5b1 : (a0_2 != a1_2) = true := bne_iff_ne.mpr c5
    obtain rfl := Option.some.inj H
    go_enter Try.func14, Try.ntmps14
    go_wp2_with (first | ((with_reducible refine gate_dst (N := 2) rfl ?_); refine bx_ 2 #[.int .i64 a0_0, .int .i64 a0_1, .int .i64 a0_2, .slice A0_3 l0_3.length c0_3, .slice A0_4 l0_4.length c0_4, .slice A0_5 l0_5.length c0_5] 40 ?_; intro gb187 hg w41 hbox hb; have BK187 := Aside0.mk (hbox); have GW187 := gs_ hg; replace HB := Aside0.mk (below_step oB hb); clear hb hbox hg) | ((with_reducible refine gate_dst (N := 3) rfl ?_); refine bx_ 3 #[.int .i64 a1_0, .int .i64 a1_1, .int .i64 a1_2, .slice A1_3 l1_3.length c1_3, .slice A1_4 l1_4.length c1_4, .slice A1_5 l1_5.length c1_5] 40 ?_; intro gb188 hg w42 hbox hb; have BK188 := Aside0.mk (hbox); have GW188 := gs_ hg; have NB187_188 := nl_ hg BK187; have NB188_187 := nr_ hg BK187; replace BK187 := kb_ BK187 hb; replace HB := Aside0.mk (below_step oB hb); clear hb hbox hg; have hnb43 := NB187_188.out; have hnc43 := NB188_187.out; obtain ⟨⟨_, _, _, _, _, _⟩, _, _, _, _, _, _⟩ := z6 BK187; obtain ⟨⟨_, _, _, _, _, _⟩, _, _, _, _, _, _⟩ := z6 BK188))
    go_ret
    exact ⟨oE, oB⟩
  ·rw [if_neg c4] at H
   have c4b0 : (a0_1 == a1_1) = false := beq_eq_false_iff_ne.mpr c4
   have c4b1 : (a0_1 != a1_1) = true := bne_iff_ne.mpr c4
   obtain rfl := Option.some.inj H
   go_enter Try.func14, Try.ntmps14
   go_wp2_with (first | ((with_reducible refine gate_dst (N := 2) rfl ?_); refine bx_ 2 #[.int .i64 a0_0, .int .i64 a0_1, .int .i64 a0_2, .slice A0_3 l0_3.length c0_3, .slice A0_4 l0_4.length c0_4, .slice A0_5 l0_5.length c0_5] 40 ?_; intro gb187 hg w46 hbox hb; have BK187 := Aside0.mk (hbox); have GW187 := gs_ hg; replace HB := Aside0.mk (below_step oB hb); clear hb hbox hg) | ((with_reducible refine gate_dst (N := 3) rfl ?_); refine bx_ 3 #[.int .i64 a1_0, .int .i64 a1_1, .int .i64 a1_2, .slice A1_3 l1_3.length c1_3, .slice A1_4 l1_4.length c1_4, .slice A1_5 l1_5.length c1_5] 40 ?_; intro gb188 hg w47 hbox hb; have BK188 := Aside0.mk (hbox); have GW188 := gs_ hg; have NB187_188 := nl_ hg BK187; have NB188_187 := nr_ hg BK187; replace BK187 := kb_ BK187 hb; replace HB := Aside0.mk (below_step oB hb); clear hb hbox hg; have hnb48 := NB187_188.out; have hnc48 := NB188_187.out; obtain ⟨⟨_, _, _, _, _, _⟩, _, _, _, _, _, _⟩ := z6 BK187; obtain ⟨⟨_, _, _, _, _, _⟩, _, _, _, _, _, _⟩ := z6 BK188))
   go_ret
   exact ⟨oE, oB⟩
 ·rw [if_neg c3] at H
  have c3b0 : (a0_0 == a1_0) = false := beq_eq_false_iff_ne.mpr c3
  have c3b1 : (a0_0 != a1_0) = true := bne_iff_ne.mpr c3
  obtain rfl := Option.some.inj H
  go_enter Try.func14, Try.ntmps14
  go_wp2_with (first | ((with_reducible refine gate_dst (N := 2) rfl ?_); refine bx_ 2 #[.int .i64 a0_0, .int .i64 a0_1, .int .i64 a0_2, .slice A0_3 l0_3.length c0_3, .slice A0_4 l0_4.length c0_4, .slice A0_5 l0_5.length c0_5] 40 ?_; intro gb187 hg w51 hbox hb; have BK187 := Aside0.mk (hbox); have GW187 := gs_ hg; replace HB := Aside0.mk (below_step oB hb); clear hb hbox hg) | ((with_reducible refine gate_dst (N := 3) rfl ?_); refine bx_ 3 #[.int .i64 a1_0, .int .i64 a1_1, .int .i64 a1_2, .slice A1_3 l1_3.length c1_3, .slice A1_4 l1_4.length c1_4, .slice A1_5 l1_5.length c1_5] 40 ?_; intro gb188 hg w52 hbox hb; have BK188 := Aside0.mk (hbox); have GW188 := gs_ hg; have NB187_188 := nl_ hg BK187; have NB188_187 := nr_ hg BK187; replace BK187 := kb_ BK187 hb; replace HB := Aside0.mk (below_step oB hb); clear hb hbox hg; have hnb53 := NB187_188.out; have hnc53 := NB188_187.out; obtain ⟨⟨_, _, _, _, _, _⟩, _, _, _, _, _, _⟩ := z6 BK187; obtain ⟨⟨_, _, _, _, _, _⟩, _, _, _, _, _, _⟩ := z6 BK188))
  go_ret
  exact ⟨oE, oB⟩

/-! ### laws_eqInodeS: function 48 -/
def laws_eqInodeS.l0 : Nat → List (S40) → List (S40) → Int → Option (Bool)
 | 0, _, _, _ => none
 | k + 1, x0, x1, x5 => if x5 < (x0.length : Int) then (if 0 ≤ x5 then (if x5 < (x1.length : Int) then ((laws_eqInode.f k ((rd_T40 x0 x5).f0) ((rd_T40 x0 x5).f1) ((rd_T40 x0 x5).f2) ((rd_T40 x0 x5).f3) ((rd_T40 x0 x5).f4) ((rd_T40 x0 x5).f5) ((rd_T40 x1 x5).f0) ((rd_T40 x1 x5).f1) ((rd_T40 x1 x5).f2) ((rd_T40 x1 x5).f3) ((rd_T40 x1 x5).f4) ((rd_T40 x1 x5).f5)).bind fun t194 => (if t194 = true then (laws_eqInodeS.l0 k x0 x1 (wrap64 (x5 + 1))) else (some false))) else (none)) else (none)) else (some true)
def laws_eqInodeS.f (k : Nat) (l0 : List (S40)) (l1 : List (S40)) : Option (Bool) := if (l0.length : Int) = (l1.length : Int) then (laws_eqInodeS.l0 k l0 l1 0) else (some false)
def laws_eqInodeS.T6 : Bool × List (List Nat × List Nat) := (true, [([], []), ([], []), ([0, 1], [0, 1]), ([2], [2]), ([], []), ([], []), ([4, 5], [4, 5]), ([6], [6]), ([3, 7], [3, 7]), ([8], [8])])
def laws_eqInodeS.B6 : List Nat := [0, 0, 3, 7, 0, 0, 48, 112, 255, 511]
theorem laws_eqInodeS.tab6 : rtab .any (opsOf Try.f48 6) = laws_eqInodeS.T6 := by kernel_rfl
theorem laws_eqInodeS.bits6 : waitsOk laws_eqInodeS.T6.2 laws_eqInodeS.B6 = true := by kernel_rfl
set_option maxHeartbeats 8000000 in
set_option maxRecDepth 100000 in
theorem laws_eqInodeS.calls (k : Nat) (A0 : Option Addr) (c0 : Nat) (l0 : List (S40)) (A1 : Option Addr) (c1 : Nat) (l1 : List (S40)) (r : Bool) (w : World) (hr0 : Kd.C k40 w A0 l0.length l0) (hc0 : l0.length ≤ c0) (hr1 : Kd.C k40 w A1 l1.length l1) (hc1 : l1.length ≤ c1) (h : laws_eqInodeS.f k l0 l1 = some r) :
  Calls Try.prog 48 #[.slice A0 l0.length c0, .slice A1 l1.length c1] w fun e w' => e = .returned (.bool r) ∧ Below w.heap.size w w' := by
 have hu40 := Try.underlying40
 have HR0 := Aside0.mk hr0
 have HC0 := Aside0.mk hc0
 clear hr0 hc0
 have HR1 := Aside0.mk hr1
 have HC1 := Aside0.mk hc1
 clear hr1 hc1
 have HB := Aside0.mk (Below.refl w.heap.size w)
 unfold laws_eqInodeS.f at h
 have H := h
 clear h
 by_cases c3 : (l0.length : Int) = (l1.length : Int)
 ·rw [if_pos c3] at H
  have c3b0 : ((l0.length : Int) == (l1.length : Int)) = true := beq_iff_eq.mpr c3
  have c3b1 : ((l0.length : Int) != (l1.length : Int)) = false := bne_eq_false_iff_eq.mpr c3
  have c3b2 : (l0.length == l1.length) = true := by first | simpa using c3 | (simp at c3 ⊢; omega)
  clear c3
  have H' := Aside0.mk H
  clear H
  go_enter Try.func48, Try.ntmps48
  go_wp2
  go_loopg [5] k (fun kq v5 w' => ∃ (x5_1 : Int), v5 = .int .i64 x5_1 ∧ Aside0 (laws_eqInodeS.l0 kq l0 l1 x5_1 = some r) ∧ Aside0 (kq ≤ k) ∧ Aside0 (Below w.heap.size w w'))
  case atStart => exact ⟨(0), oS, H', ⟨Nat.le_refl _⟩, ⟨oB⟩⟩
  case round =>
   clear H'
   try clear c1
   try clear c3
   obtain ⟨x5_1, rfl, HA, HK1, HB⟩ := hrel
   cases gk with
   | zero => exact absurd HA.out (by simp [laws_eqInodeS.l0])
   | succ k1 =>
    have H := HA.out
    clear HA
    simp only [laws_eqInodeS.l0] at H
    replace H := itD H
    rcases H with ⟨c4b0, H⟩ | ⟨c4b0, H⟩
    ·replace H := itD H
     rcases H with ⟨c5b0, H⟩ | ⟨c5b0, H⟩
     ·replace H := itD H
      rcases H with ⟨c6b0, H⟩ | ⟨c6b0, H⟩
      ·replace H := bA H
       obtain ⟨t194, A7, H⟩ := H
       try dsimp only at H
       replace H := itB H
       rcases H with ⟨rfl, H⟩ | ⟨rfl, H⟩
       ·have H' := Aside0.mk H
        clear H
        try go_wp2
        replace HB := Aside0.mk (below_drew1 HB.out)
        have p192 : (0 ≤ (x5_1 : Int)) = True := oT
        have q192 : (x5_1 < (l0.length : Int)) = True := oT
        obtain ⟨ad192, A192_3, c192_3, A192_4, c192_4, A192_5, c192_5, e192, hx192_0, hx192_1, hx192_2, hx192_3, hx192_4, hx192_5, hl192_3, hi192_3, hl192_4, hi192_4, hl192_5, hi192_5⟩ := at_T40 HR0.out x5_1 oa oa
        have hw192_5 := hx192_5
        have hw192_4 := hx192_4
        have hw192_3 := hx192_3
        have hw192_2 := hx192_2
        have hw192_1 := hx192_1
        have hw192_0 := hx192_0
        cases e192
        replace hx192_0 := cB HB hx192_0
        replace hx192_1 := cB HB hx192_1
        replace hx192_2 := cB HB hx192_2
        replace hx192_3 := cB HB hx192_3
        replace hx192_4 := cB HB hx192_4
        replace hx192_5 := cB HB hx192_5
        have HR192_3 := Aside0.mk hi192_3
        have HC192_3 := Aside0.mk hl192_3
        clear hi192_3 hl192_3
        have HR192_4 := Aside0.mk hi192_4
        have HC192_4 := Aside0.mk hl192_4
        clear hi192_4 hl192_4
        have HR192_5 := Aside0.mk hi192_5
        have HC192_5 := Aside0.mk hl192_5
        clear hi192_5 hl192_5
        have p193 : (0 ≤ (x5_1 : Int)) = True := oT
        have q193 : (x5_1 < (l1.length : Int)) = True := oT
        obtain ⟨ad193, A193_3, c193_3, A193_4, c193_4, A193_5, c193_5, e193, hx193_0, hx193_1, hx193_2, hx193_3, hx193_4, hx193_5, hl193_3, hi193_3, hl193_4, hi193_4, hl193_5, hi193_5⟩ := at_T40 HR1.out x5_1 oa oa
        have hw193_5 := hx193_5
        have hw193_4 := hx193_4
        have hw193_3 := hx193_3
        have hw193_2 := hx193_2
        have hw193_1 := hx193_1
        have hw193_0 := hx193_0
        cases e193
        replace hx193_0 := cB HB hx193_0
        replace hx193_1 := cB HB hx193_1
        replace hx193_2 := cB HB hx193_2
        replace hx193_3 := cB HB hx193_3
        replace hx193_4 := cB HB hx193_4
        replace hx193_5 := cB HB hx193_5
        have HR193_3 := Aside0.mk hi193_3
        have HC193_3 := Aside0.mk hl193_3
        clear hi193_3 hl193_3
        have HR193_4 := Aside0.mk hi193_4
        have HC193_4 := Aside0.mk hl193_4
        clear hi193_4 hl193_4
        have HR193_5 := Aside0.mk hi193_5
        have HC193_5 := Aside0.mk hl193_5
        clear hi193_5 hl193_5
        refine st_ 10 (fun w' => w'.cell? (ad192.add ((x5_1).toNat * 6)) = some (.int .i64 ((rd_T40 l0 x5_1).f0)) ∧ w'.cell? ⟨(ad192.add ((x5_1).toNat * 6)).block, (ad192.add ((x5_1).toNat * 6)).off + 1, none⟩ = some (.int .i64 ((rd_T40 l0 x5_1).f1)) ∧ w'.cell? ⟨(ad192.add ((x5_1).toNat * 6)).block, (ad192.add ((x5_1).toNat * 6)).off + 2, none⟩ = some (.int .i64 ((rd_T40 l0 x5_1).f2)) ∧ w'.cell? ⟨(ad192.add ((x5_1).toNat * 6)).block, (ad192.add ((x5_1).toNat * 6)).off + 3, none⟩ = some (.slice A192_3 ((rd_T40 l0 x5_1).f3).length c192_3) ∧ w'.cell? ⟨(ad192.add ((x5_1).toNat * 6)).block, (ad192.add ((x5_1).toNat * 6)).off + 4, none⟩ = some (.slice A192_4 ((rd_T40 l0 x5_1).f4).length c192_4) ∧ w'.cell? ⟨(ad192.add ((x5_1).toNat * 6)).block, (ad192.add ((x5_1).toNat * 6)).off + 5, none⟩ = some (.slice A192_5 ((rd_T40 l0 x5_1).f5).length c192_5) ∧ w'.cell? (ad193.add ((x5_1).toNat * 6)) = some (.int .i64 ((rd_T40 l1 x5_1).f0)) ∧ w'.cell? ⟨(ad193.add ((x5_1).toNat * 6)).block, (ad193.add ((x5_1).toNat * 6)).off + 1, none⟩ = some (.int .i64 ((rd_T40 l1 x5_1).f1)) ∧ w'.cell? ⟨(ad193.add ((x5_1).toNat * 6)).block, (ad193.add ((x5_1).toNat * 6)).off + 2, none⟩ = some (.int .i64 ((rd_T40 l1 x5_1).f2)) ∧ w'.cell? ⟨(ad193.add ((x5_1).toNat * 6)).block, (ad193.add ((x5_1).toNat * 6)).off + 3, none⟩ = some (.slice A193_3 ((rd_T40 l1 x5_1).f3).length c193_3) ∧ w'.cell? ⟨(ad193.add ((x5_1).toNat * 6)).block, (ad193.add ((x5_1).toNat * 6)).off + 4, none⟩ = some (.slice A193_4 ((rd_T40 l1 x5_1).f4).length c193_4) ∧ w'.cell? ⟨(ad193.add ((x5_1).toNat * 6)).block, (ad193.add ((x5_1).toNat * 6)).off + 5, none⟩ = some (.slice A193_5 ((rd_T40 l1 x5_1).f5).length c193_5)) laws_eqInodeS.tab6 laws_eqInodeS.bits6 oH (fun hHeld HT_ HW_ => ?_)
        generalize wr.drew = w9 at HB HR192_3 HR192_4 HR192_5 HR193_3 HR193_4 HR193_5 hx192_0 hx192_1 hx192_2 hx192_3 hx192_4 hx192_5 hx193_0 hx193_1 hx193_2 hx193_3 hx193_4 hx193_5 hHeld ⊢
        refine pu_ 0 17 HT_ ?_
        refine pu_ 1 18 HT_ ?_
        refine pu_ 2 19 HT_ ?_
        refine pu_ 4 21 HT_ ?_
        refine pu_ 5 22 HT_ ?_
        refine pu_ 6 23 HT_ ?_
        refine ta_ 3 20 HT_ HW_ hHeld ?_
        refine ta_ 7 24 HT_ HW_ hHeld ?_
        refine on_ 8 25 HT_ (fun K hK => ?_)
        refine gr_ 25 Try.func14 (laws_eqInode.calls k1 ((rd_T40 l0 x5_1).f0) ((rd_T40 l0 x5_1).f1) ((rd_T40 l0 x5_1).f2) _ _ ((rd_T40 l0 x5_1).f3) _ _ ((rd_T40 l0 x5_1).f4) _ _ ((rd_T40 l0 x5_1).f5) ((rd_T40 l1 x5_1).f0) ((rd_T40 l1 x5_1).f1) ((rd_T40 l1 x5_1).f2) _ _ ((rd_T40 l1 x5_1).f3) _ _ ((rd_T40 l1 x5_1).f4) _ _ ((rd_T40 l1 x5_1).f5) true _ (kC HR192_3) HC192_3.out (kC HR192_4) HC192_4.out (kC HR192_5) HC192_5.out (kC HR193_3) HC193_3.out (kC HR193_4) HC193_4.out (kC HR193_5) HC193_5.out A7.out) ?_
        rintro e w10 ⟨rfl, hb⟩
        refine ⟨_, rfl, ?_⟩
        replace HB := Aside0.mk (below_step oB hb)
        refine hk_ hK 25 oH (fun hHeld => ?_)
        clear hK K
        refine pu_ 9 26 HT_ ?_
        refine dn_ HT_ ?_
        try go_wp2
        go_roundg k1
        case measure => have := HK1.out; omega
        case rel => exact ⟨(wrap64 (x5_1 + 1)), oS, H', ⟨by have := HK1.out; omega⟩, ⟨oB⟩⟩
       ·obtain rfl := Option.some.inj H
        try go_wp2
        replace HB := Aside0.mk (below_drew1 HB.out)
        have p192 : (0 ≤ (x5_1 : Int)) = True := oT
        have q192 : (x5_1 < (l0.length : Int)) = True := oT
        obtain ⟨ad192, A192_3, c192_3, A192_4, c192_4, A192_5, c192_5, e192, hx192_0, hx192_1, hx192_2, hx192_3, hx192_4, hx192_5, hl192_3, hi192_3, hl192_4, hi192_4, hl192_5, hi192_5⟩ := at_T40 HR0.out x5_1 oa oa
        have hw192_5 := hx192_5
        have hw192_4 := hx192_4
        have hw192_3 := hx192_3
        have hw192_2 := hx192_2
        have hw192_1 := hx192_1
        have hw192_0 := hx192_0
        cases e192
        replace hx192_0 := cB HB hx192_0
        replace hx192_1 := cB HB hx192_1
        replace hx192_2 := cB HB hx192_2
        replace hx192_3 := cB HB hx192_3
        replace hx192_4 := cB HB hx192_4
        replace hx192_5 := cB HB hx192_5
        have HR192_3 := Aside0.mk hi192_3
        have HC192_3 := Aside0.mk hl192_3
        clear hi192_3 hl192_3
        have HR192_4 := Aside0.mk hi192_4
        have HC192_4 := Aside0.mk hl192_4
        clear hi192_4 hl192_4
        have HR192_5 := Aside0.mk hi192_5
        have HC192_5 := Aside0.mk hl192_5
        clear hi192_5 hl192_5
        have p193 : (0 ≤ (x5_1 : Int)) = True := oT
        have q193 : (x5_1 < (l1.length : Int)) = True := oT
        obtain ⟨ad193, A193_3, c193_3, A193_4, c193_4, A193_5, c193_5, e193, hx193_0, hx193_1, hx193_2, hx193_3, hx193_4, hx193_5, hl193_3, hi193_3, hl193_4, hi193_4, hl193_5, hi193_5⟩ := at_T40 HR1.out x5_1 oa oa
        have hw193_5 := hx193_5
        have hw193_4 := hx193_4
        have hw193_3 := hx193_3
        have hw193_2 := hx193_2
        have hw193_1 := hx193_1
        have hw193_0 := hx193_0
        cases e193
        replace hx193_0 := cB HB hx193_0
        replace hx193_1 := cB HB hx193_1
        replace hx193_2 := cB HB hx193_2
        replace hx193_3 := cB HB hx193_3
        replace hx193_4 := cB HB hx193_4
        replace hx193_5 := cB HB hx193_5
        have HR193_3 := Aside0.mk hi193_3
        have HC193_3 := Aside0.mk hl193_3
        clear hi193_3 hl193_3
        have HR193_4 := Aside0.mk hi193_4
        have HC193_4 := Aside0.mk hl193_4
        clear hi193_4 hl193_4
        have HR193_5 := Aside0.mk hi193_5
        have HC193_5 := Aside0.mk hl193_5
        clear hi193_5 hl193_5
        refine st_ 10 (fun w' => w'.cell? (ad192.add ((x5_1).toNat * 6)) = some (.int .i64 ((rd_T40 l0 x5_1).f0)) ∧ w'.cell? ⟨(ad192.add ((x5_1).toNat * 6)).block, (ad192.add ((x5_1).toNat * 6)).off + 1, none⟩ = some (.int .i64 ((rd_T40 l0 x5_1).f1)) ∧ w'.cell? ⟨(ad192.add ((x5_1).toNat * 6)).block, (ad192.add ((x5_1).toNat * 6)).off + 2, none⟩ = some (.int .i64 ((rd_T40 l0 x5_1).f2)) ∧ w'.cell? ⟨(ad192.add ((x5_1).toNat * 6)).block, (ad192.add ((x5_1).toNat * 6)).off + 3, none⟩ = some (.slice A192_3 ((rd_T40 l0 x5_1).f3).length c192_3) ∧ w'.cell? ⟨(ad192.add ((x5_1).toNat * 6)).block, (ad192.add ((x5_1).toNat * 6)).off + 4, none⟩ = some (.slice A192_4 ((rd_T40 l0 x5_1).f4).length c192_4) ∧ w'.cell? ⟨(ad192.add ((x5_1).toNat * 6)).block, (ad192.add ((x5_1).toNat * 6)).off + 5, none⟩ = some (.slice A192_5 ((rd_T40 l0 x5_1).f5).length c192_5) ∧ w'.cell? (ad193.add ((x5_1).toNat * 6)) = some (.int .i64 ((rd_T40 l1 x5_1).f0)) ∧ w'.cell? ⟨(ad193.add ((x5_1).toNat * 6)).block, (ad193.add ((x5_1).toNat * 6)).off + 1, none⟩ = some (.int .i64 ((rd_T40 l1 x5_1).f1)) ∧ w'.cell? ⟨(ad193.add ((x5_1).toNat * 6)).block, (ad193.add ((x5_1).toNat * 6)).off + 2, none⟩ = some (.int .i64 ((rd_T40 l1 x5_1).f2)) ∧ w'.cell? ⟨(ad193.add ((x5_1).toNat * 6)).block, (ad193.add ((x5_1).toNat * 6)).off + 3, none⟩ = some (.slice A193_3 ((rd_T40 l1 x5_1).f3).length c193_3) ∧ w'.cell? ⟨(ad193.add ((x5_1).toNat * 6)).block, (ad193.add ((x5_1).toNat * 6)).off + 4, none⟩ = some (.slice A193_4 ((rd_T40 l1 x5_1).f4).length c193_4) ∧ w'.cell? ⟨(ad193.add ((x5_1).toNat * 6)).block, (ad193.add ((x5_1).toNat * 6)).off + 5, none⟩ = some (.slice A193_5 ((rd_T40 l1 x5_1).f5).length c193_5)) laws_eqInodeS.tab6 laws_eqInodeS.bits6 oH (fun hHeld HT_ HW_ => ?_)
        generalize wr.drew = w11 at HB HR192_3 HR192_4 HR192_5 HR193_3 HR193_4 HR193_5 hx192_0 hx192_1 hx192_2 hx192_3 hx192_4 hx192_5 hx193_0 hx193_1 hx193_2 hx193_3 hx193_4 hx193_5 hHeld ⊢
        refine pu_ 0 17 HT_ ?_
        refine pu_ 1 18 HT_ ?_
        refine pu_ 2 19 HT_ ?_
        refine pu_ 4 21 HT_ ?_
        refine pu_ 5 22 HT_ ?_
        refine pu_ 6 23 HT_ ?_
        refine ta_ 3 20 HT_ HW_ hHeld ?_
        refine ta_ 7 24 HT_ HW_ hHeld ?_
        refine on_ 8 25 HT_ (fun K hK => ?_)
        refine gr_ 25 Try.func14 (laws_eqInode.calls k1 ((rd_T40 l0 x5_1).f0) ((rd_T40 l0 x5_1).f1) ((rd_T40 l0 x5_1).f2) _ _ ((rd_T40 l0 x5_1).f3) _ _ ((rd_T40 l0 x5_1).f4) _ _ ((rd_T40 l0 x5_1).f5) ((rd_T40 l1 x5_1).f0) ((rd_T40 l1 x5_1).f1) ((rd_T40 l1 x5_1).f2) _ _ ((rd_T40 l1 x5_1).f3) _ _ ((rd_T40 l1 x5_1).f4) _ _ ((rd_T40 l1 x5_1).f5) false _ (kC HR192_3) HC192_3.out (kC HR192_4) HC192_4.out (kC HR192_5) HC192_5.out (kC HR193_3) HC193_3.out (kC HR193_4) HC193_4.out (kC HR193_5) HC193_5.out A7.out) ?_
        rintro e w12 ⟨rfl, hb⟩
        refine ⟨_, rfl, ?_⟩
        replace HB := Aside0.mk (below_step oB hb)
        refine hk_ hK 25 oH (fun hHeld => ?_)
        clear hK K
        refine pu_ 9 26 HT_ ?_
        refine dn_ HT_ ?_
        try go_wp2
        go_ret
        exact ⟨oE, oB⟩
      ·cases H
     ·cases H
    ·obtain rfl := Option.some.inj H
     go_wp2
     go_ret
     exact ⟨oE, oB⟩
 ·rw [if_neg c3] at H
  have c3b0 : ((l0.length : Int) == (l1.length : Int)) = false := beq_eq_false_iff_ne.mpr c3
  have c3b1 : ((l0.length : Int) != (l1.length : Int)) = true := bne_iff_ne.mpr c3
  have c3b2 : (l0.length == l1.length) = false := by first | simpa using c3 | (simp at c3 ⊢; omega)
  obtain rfl := Option.some.inj H
  go_enter Try.func48, Try.ntmps48
  go_wp2
  go_ret
  exact ⟨oE, oB⟩

/-! ### laws_eqTab: function 13 -/
def laws_eqTab.f (k : Nat) (l0_0 : List (S40)) (a0_1 : Int) (l1_0 : List (S40)) (a1_1 : Int) : Option (Bool) := (laws_eqInodeS.f k l0_0 l1_0).bind fun t197 => (if t197 = true then (if a0_1 = a1_1 then (some true) else (some false)) else (some false))
set_option maxHeartbeats 8000000 in
set_option maxRecDepth 100000 in
theorem laws_eqTab.calls (k : Nat) (A0_0 : Option Addr) (c0_0 : Nat) (l0_0 : List (S40)) (a0_1 : Int) (A1_0 : Option Addr) (c1_0 : Nat) (l1_0 : List (S40)) (a1_1 : Int) (r : Bool) (w : World) (hr0_0 : Kd.C k40 w A0_0 l0_0.length l0_0) (hc0_0 : l0_0.length ≤ c0_0) (hr1_0 : Kd.C k40 w A1_0 l1_0.length l1_0) (hc1_0 : l1_0.length ≤ c1_0) (h : laws_eqTab.f k l0_0 a0_1 l1_0 a1_1 = some r) :
  Calls Try.prog 13 #[.agg #[.slice A0_0 l0_0.length c0_0, .int .i64 a0_1], .agg #[.slice A1_0 l1_0.length c1_0, .int .i64 a1_1]] w fun e w' => e = .returned (.bool r) ∧ Below w.heap.size w w' := by
 have hu34 := Try.underlying34
 have HR0_0 := Aside0.mk hr0_0
 have HC0_0 := Aside0.mk hc0_0
 clear hr0_0 hc0_0
 have HR1_0 := Aside0.mk hr1_0
 have HC1_0 := Aside0.mk hc1_0
 clear hr1_0 hc1_0
 have HB := Aside0.mk (Below.refl w.heap.size w)
 unfold laws_eqTab.f at h
 have H := h
 clear h
 replace H := bA H
 obtain ⟨t197, A3, H⟩ := H
 try dsimp only at H
 replace H := itB H
 rcases H with ⟨rfl, H⟩ | ⟨rfl, H⟩
 ·by_cases c5 : a0_1 = a1_1
  ·rw [if_pos c5] at H
   have c5b0 : (a0_1 == a1_1) = true := beq_iff_eq.mpr c5
   have c5b1 : (a0_1 != a1_1) = false := bne_eq_false_iff_eq.mpr c5
   clear c5
   obtain rfl := Option.some.inj H
   go_enter Try.func13, Try.ntmps13
   go_wp2_with (first | ((with_reducible refine gate_dst (N := 2) rfl ?_); refine bx_ 2 #[.slice A0_0 l0_0.length c0_0, .int .i64 a0_1] 34 ?_; intro gb195 hg w6 hbox hb; have BK195 := Aside0.mk (hbox); have GW195 := gs_ hg; replace HB := Aside0.mk (below_step oB hb); clear hb hbox hg) | ((with_reducible refine gate_dst (N := 3) rfl ?_); refine bx_ 3 #[.slice A1_0 l1_0.length c1_0, .int .i64 a1_1] 34 ?_; intro gb196 hg w7 hbox hb; have BK196 := Aside0.mk (hbox); have GW196 := gs_ hg; have NB195_196 := nl_ hg BK195; have NB196_195 := nr_ hg BK195; replace BK195 := kb_ BK195 hb; replace HB := Aside0.mk (below_step oB hb); clear hb hbox hg; have hnb8 := NB195_196.out; have hnc8 := NB196_195.out; obtain ⟨⟨_, _⟩, _, _⟩ := z2 BK195; obtain ⟨⟨_, _⟩, _, _⟩ := z2 BK196) | ((with_reducible refine gate_callee (f := 48) rfl ?_); refine gl_ 9 Try.func48 (laws_eqInodeS.calls k _ _ l0_0 _ _ l1_0 true _ (kC HR0_0) HC0_0.out (kC HR1_0) HC1_0.out A3.out) ?_; rintro e w11 ⟨rfl, hb⟩; refine ⟨_, rfl, ?_⟩; replace BK195 := kb_ BK195 hb; replace BK196 := kb_ BK196 hb; replace HB := Aside0.mk (below_step oB hb); obtain ⟨⟨_, _⟩, _, _⟩ := z2 BK195; obtain ⟨⟨_, _⟩, _, _⟩ := z2 BK196))
   go_ret
   exact ⟨oE, oB⟩
  ·rw [if_neg c5] at H
   have c5b0 : (a0_1 == a1_1) = false := beq_eq_false_iff_ne.mpr c5
   have c5b1 : (a0_1 != a1_1) = true := bne_iff_ne.mpr c5
   obtain rfl := Option.some.inj H
   go_enter Try.func13, Try.ntmps13
   go_wp2_with (first | ((with_reducible refine gate_dst (N := 2) rfl ?_); refine bx_ 2 #[.slice A0_0 l0_0.length c0_0, .int .i64 a0_1] 34 ?_; intro gb195 hg w14 hbox hb; have BK195 := Aside0.mk (hbox); have GW195 := gs_ hg; replace HB := Aside0.mk (below_step oB hb); clear hb hbox hg) | ((with_reducible refine gate_dst (N := 3) rfl ?_); refine bx_ 3 #[.slice A1_0 l1_0.length c1_0, .int .i64 a1_1] 34 ?_; intro gb196 hg w15 hbox hb; have BK196 := Aside0.mk (hbox); have GW196 := gs_ hg; have NB195_196 := nl_ hg BK195; have NB196_195 := nr_ hg BK195; replace BK195 := kb_ BK195 hb; replace HB := Aside0.mk (below_step oB hb); clear hb hbox hg; have hnb16 := NB195_196.out; have hnc16 := NB196_195.out; obtain ⟨⟨_, _⟩, _, _⟩ := z2 BK195; obtain ⟨⟨_, _⟩, _, _⟩ := z2 BK196) | ((with_reducible refine gate_callee (f := 48) rfl ?_); refine gl_ 9 Try.func48 (laws_eqInodeS.calls k _ _ l0_0 _ _ l1_0 true _ (kC HR0_0) HC0_0.out (kC HR1_0) HC1_0.out A3.out) ?_; rintro e w19 ⟨rfl, hb⟩; refine ⟨_, rfl, ?_⟩; replace BK195 := kb_ BK195 hb; replace BK196 := kb_ BK196 hb; replace HB := Aside0.mk (below_step oB hb); obtain ⟨⟨_, _⟩, _, _⟩ := z2 BK195; obtain ⟨⟨_, _⟩, _, _⟩ := z2 BK196))
   go_ret
   exact ⟨oE, oB⟩
 ·obtain rfl := Option.some.inj H
  go_enter Try.func13, Try.ntmps13
  go_wp2_with (first | ((with_reducible refine gate_dst (N := 2) rfl ?_); refine bx_ 2 #[.slice A0_0 l0_0.length c0_0, .int .i64 a0_1] 34 ?_; intro gb195 hg w22 hbox hb; have BK195 := Aside0.mk (hbox); have GW195 := gs_ hg; replace HB := Aside0.mk (below_step oB hb); clear hb hbox hg) | ((with_reducible refine gate_dst (N := 3) rfl ?_); refine bx_ 3 #[.slice A1_0 l1_0.length c1_0, .int .i64 a1_1] 34 ?_; intro gb196 hg w23 hbox hb; have BK196 := Aside0.mk (hbox); have GW196 := gs_ hg; have NB195_196 := nl_ hg BK195; have NB196_195 := nr_ hg BK195; replace BK195 := kb_ BK195 hb; replace HB := Aside0.mk (below_step oB hb); clear hb hbox hg; have hnb24 := NB195_196.out; have hnc24 := NB196_195.out; obtain ⟨⟨_, _⟩, _, _⟩ := z2 BK195; obtain ⟨⟨_, _⟩, _, _⟩ := z2 BK196) | ((with_reducible refine gate_callee (f := 48) rfl ?_); refine gl_ 9 Try.func48 (laws_eqInodeS.calls k _ _ l0_0 _ _ l1_0 false _ (kC HR0_0) HC0_0.out (kC HR1_0) HC1_0.out A3.out) ?_; rintro e w27 ⟨rfl, hb⟩; refine ⟨_, rfl, ?_⟩; replace BK195 := kb_ BK195 hb; replace BK196 := kb_ BK196 hb; replace HB := Aside0.mk (below_step oB hb)))
  go_ret
  exact ⟨oE, oB⟩

/-! ### spec_l4At: function 36 -/
def spec_l4At.l0 : Nat → Int → Int → List (S40) → Int → Option (Int)
 | 0, _, _, _, _ => none
 | k + 1, x1, x5, x199000, x199001 => if x5 < (x199000.length : Int) then (if 0 ≤ x5 then (if ((rd_T40 x199000 x5).f0) = x1 then (some x5) else (spec_l4At.l0 k x1 (wrap64 (x5 + 1)) x199000 x199001)) else (none)) else (some (-1))
def spec_l4At.f (k : Nat) (l0_0 : List (S40)) (a0_1 : Int) (a1 : Int) : Option (Int) := spec_l4At.l0 k a1 0 l0_0 a0_1
set_option maxHeartbeats 8000000 in
set_option maxRecDepth 100000 in
theorem spec_l4At.calls (k : Nat) (A0_0 : Option Addr) (c0_0 : Nat) (l0_0 : List (S40)) (a0_1 : Int) (a1 : Int) (r : Int) (w : World) (hr0_0 : Kd.C k40 w A0_0 l0_0.length l0_0) (hc0_0 : l0_0.length ≤ c0_0) (h : spec_l4At.f k l0_0 a0_1 a1 = some r) :
  Calls Try.prog 36 #[.agg #[.slice A0_0 l0_0.length c0_0, .int .i64 a0_1], .int .i64 a1] w fun e w' => e = .returned (.int .i64 r) ∧ Below w.heap.size w w' := by
 have hu34 := Try.underlying34
 have HR0_0 := Aside0.mk hr0_0
 have HC0_0 := Aside0.mk hc0_0
 clear hr0_0 hc0_0
 have HB := Aside0.mk (Below.refl w.heap.size w)
 unfold spec_l4At.f at h
 have H := h
 clear h
 have H' := Aside0.mk H
 clear H
 go_enter Try.func36, Try.ntmps36
 go_wp2_with (first | ((with_reducible refine gate_dst (N := 2) rfl ?_); refine bx_ 2 #[.slice A0_0 l0_0.length c0_0, .int .i64 a0_1] 34 ?_; intro gb198 hg w3 hbox hb; have BK198 := Aside0.mk (hbox); have GW198 := gs_ hg; replace HB := Aside0.mk (below_step oB hb); clear hb hbox hg))
 go_loopg [5] k (fun kq v5 w' => ∃ (x5_1 : Int), v5 = .int .i64 x5_1 ∧ Aside0 (spec_l4At.l0 kq a1 x5_1 l0_0 a0_1 = some r) ∧ Aside0 (kq ≤ k) ∧ Aside0 (w'.heap[gb198]? = some (.cells #[(.slice A0_0 l0_0.length c0_0), .int .i64 a0_1] 34 (0, 0))) ∧ Aside0 (Below w.heap.size w w'))
 case atStart => exact ⟨(0), oS, H', ⟨Nat.le_refl _⟩, ⟨oF BK198⟩, ⟨oB⟩⟩
 case round =>
  clear H'
  obtain ⟨x5_1, rfl, HA, HK1, BK198, HB⟩ := hrel
  cases gk with
  | zero => exact absurd HA.out (by simp [spec_l4At.l0])
  | succ k1 =>
   have H := HA.out
   clear HA
   simp only [spec_l4At.l0] at H
   replace H := itD H
   rcases H with ⟨c4b0, H⟩ | ⟨c4b0, H⟩
   ·replace H := itD H
    rcases H with ⟨c5b0, H⟩ | ⟨c5b0, H⟩
    ·by_cases c6 : ((rd_T40 l0_0 x5_1).f0) = a1
     ·rw [if_pos c6] at H
      have c6b0 : (((rd_T40 l0_0 x5_1).f0) == a1) = true := beq_iff_eq.mpr c6
      have c6b1 : (((rd_T40 l0_0 x5_1).f0) != a1) = false := bne_eq_false_iff_eq.mpr c6
      clear c6
      obtain rfl := Option.some.inj H
      obtain ⟨⟨_, _⟩, _, _⟩ := z2 BK198
      have p199 : (0 ≤ (x5_1 : Int)) = True := oT
      have q199 : (x5_1 < (l0_0.length : Int)) = True := oT
      obtain ⟨ad199, A199_3, c199_3, A199_4, c199_4, A199_5, c199_5, e199, hx199_0, hx199_1, hx199_2, hx199_3, hx199_4, hx199_5, hl199_3, hi199_3, hl199_4, hi199_4, hl199_5, hi199_5⟩ := at_T40 HR0_0.out x5_1 oa oa
      cases e199
      replace hx199_0 := cB HB hx199_0
      replace hx199_1 := cB HB hx199_1
      replace hx199_2 := cB HB hx199_2
      replace hx199_3 := cB HB hx199_3
      replace hx199_4 := cB HB hx199_4
      replace hx199_5 := cB HB hx199_5
      have HR199_3 := Aside0.mk hi199_3
      have HC199_3 := Aside0.mk hl199_3
      clear hi199_3 hl199_3
      have HR199_4 := Aside0.mk hi199_4
      have HC199_4 := Aside0.mk hl199_4
      clear hi199_4 hl199_4
      have HR199_5 := Aside0.mk hi199_5
      have HC199_5 := Aside0.mk hl199_5
      clear hi199_5 hl199_5
      go_wp2
      go_ret
      exact ⟨oE, oB⟩
     ·rw [if_neg c6] at H
      have c6b0 : (((rd_T40 l0_0 x5_1).f0) == a1) = false := beq_eq_false_iff_ne.mpr c6
      have c6b1 : (((rd_T40 l0_0 x5_1).f0) != a1) = true := bne_iff_ne.mpr c6
      have H' := Aside0.mk H
      clear H
      obtain ⟨⟨_, _⟩, _, _⟩ := z2 BK198
      have p199 : (0 ≤ (x5_1 : Int)) = True := oT
      have q199 : (x5_1 < (l0_0.length : Int)) = True := oT
      obtain ⟨ad199, A199_3, c199_3, A199_4, c199_4, A199_5, c199_5, e199, hx199_0, hx199_1, hx199_2, hx199_3, hx199_4, hx199_5, hl199_3, hi199_3, hl199_4, hi199_4, hl199_5, hi199_5⟩ := at_T40 HR0_0.out x5_1 oa oa
      cases e199
      replace hx199_0 := cB HB hx199_0
      replace hx199_1 := cB HB hx199_1
      replace hx199_2 := cB HB hx199_2
      replace hx199_3 := cB HB hx199_3
      replace hx199_4 := cB HB hx199_4
      replace hx199_5 := cB HB hx199_5
      have HR199_3 := Aside0.mk hi199_3
      have HC199_3 := Aside0.mk hl199_3
      clear hi199_3 hl199_3
      have HR199_4 := Aside0.mk hi199_4
      have HC199_4 := Aside0.mk hl199_4
      clear hi199_4 hl199_4
      have HR199_5 := Aside0.mk hi199_5
      have HC199_5 := Aside0.mk hl199_5
      clear hi199_5 hl199_5
      go_wp2
      go_roundg k1
      case measure => have := HK1.out; omega
      case rel => exact ⟨(wrap64 (x5_1 + 1)), oS, H', ⟨by have := HK1.out; omega⟩, ⟨oF BK198⟩, ⟨oB⟩⟩
    ·cases H
   ·obtain rfl := Option.some.inj H
    obtain ⟨⟨_, _⟩, _, _⟩ := z2 BK198
    go_wp2
    go_ret
    exact ⟨oE, oB⟩

/-! ### spec_l3Copy: function 37 -/
def spec_l3Copy.f (a0_0 : Int) (a0_1 : Int) (a0_2 : Int) (l0_3 : List Int) (l0_4 : List (S82)) (l0_5 : List (S90)) : Option (Int × Int × Int × List Int × (List (S82)) × (List (S90))) := (some (([] : List Int) : List Int)).bind fun y203 => (if y203.length + l0_3.length < 140737488355328 then ((some (([] : List (S82)) : List (S82))).bind fun y209 => (if y209.length + l0_4.length < 5864062014805 then ((some (([] : List (S90)) : List (S90))).bind fun y215 => (if y215.length + l0_5.length < 4398046511104 then (some (a0_0, a0_1, a0_2, (y203 ++ l0_3), (y209 ++ l0_4), (y215 ++ l0_5))) else (none))) else (none))) else (none))
set_option maxHeartbeats 8000000 in
set_option maxRecDepth 100000 in
theorem spec_l3Copy.calls (a0_0 : Int) (a0_1 : Int) (a0_2 : Int) (A0_3 : Option Addr) (c0_3 : Nat) (l0_3 : List Int) (A0_4 : Option Addr) (c0_4 : Nat) (l0_4 : List (S82)) (A0_5 : Option Addr) (c0_5 : Nat) (l0_5 : List (S90)) (r1 : Int) (r2 : Int) (r3 : Int) (r4 : List Int) (r5 : List (S82)) (r6 : List (S90)) (w : World) (hr0_3 : Kd.C (Kd.int .u8) w A0_3 l0_3.length l0_3) (hc0_3 : l0_3.length ≤ c0_3) (hr0_4 : Kd.C k82 w A0_4 l0_4.length l0_4) (hc0_4 : l0_4.length ≤ c0_4) (hr0_5 : Kd.C k90 w A0_5 l0_5.length l0_5) (hc0_5 : l0_5.length ≤ c0_5) (h : spec_l3Copy.f a0_0 a0_1 a0_2 l0_3 l0_4 l0_5 = some (r1, r2, r3, r4, r5, r6)) :
  Calls Try.prog 37 #[.agg #[.int .i64 a0_0, .int .i64 a0_1, .int .i64 a0_2, .slice A0_3 l0_3.length c0_3, .slice A0_4 l0_4.length c0_4, .slice A0_5 l0_5.length c0_5]] w fun e w' => ∃ v3_ v4_ v5_ : Value, e = .returned (.agg #[.int .i64 r1, .int .i64 r2, .int .i64 r3, v3_, v4_, v5_]) ∧ Kd.R (Kd.int .u8) 5 w' w.heap.size (fun _ => True) v3_ r4 ∧ Kd.R k82 82 w' w.heap.size (fun _ => True) v4_ r5 ∧ Kd.R k90 90 w' w.heap.size (fun _ => True) v5_ r6 ∧ Below w.heap.size w w' := by
 have hu40 := Try.underlying40
 have HR0_3 := Aside0.mk hr0_3
 have HC0_3 := Aside0.mk hc0_3
 clear hr0_3 hc0_3
 have HR0_4 := Aside0.mk hr0_4
 have HC0_4 := Aside0.mk hc0_4
 clear hr0_4 hc0_4
 have HR0_5 := Aside0.mk hr0_5
 have HC0_5 := Aside0.mk hc0_5
 clear hr0_5 hc0_5
 have HB := Aside0.mk (Below.refl w.heap.size w)
 unfold spec_l3Copy.f at h
 have H := h
 clear h
 obtain ⟨y203, hy203⟩ : ∃ y_ : List Int, y_ = (([] : List Int)) := ⟨_, rfl⟩
 replace H : (if y203.length + l0_3.length < 140737488355328 then ((some (([] : List (S82)) : List (S82))).bind fun y209 => (if y209.length + l0_4.length < 5864062014805 then ((some (([] : List (S90)) : List (S90))).bind fun y215 => (if y215.length + l0_5.length < 4398046511104 then (some (a0_0, a0_1, a0_2, (y203 ++ l0_3), (y209 ++ l0_4), (y215 ++ l0_5))) else (none))) else (none))) else (none)) = some (r1, r2, r3, r4, r5, r6) := by first | (rw [hy203]; with_reducible exact H) | (have H2_ := (Option.bind_some _ _).symm.trans H; rw [hy203]; with_reducible exact H2_) | (have H2_ := (Option.bind_some _ _).symm.trans H; with_reducible exact H2_) | with_reducible exact H | (rw [hy203]; exact H) | exact H
 have Ny203 := Aside0.mk hy203
 clear hy203
 by_cases c2 : y203.length + l0_3.length < 140737488355328
 ·rw [if_pos c2] at H
  have LMc2 := Aside0.mk c2
  clear c2
  obtain ⟨y206, hy206⟩ : ∃ y_ : List Int, y_ = (y203 ++ l0_3) := ⟨_, rfl⟩
  replace H : ((some (([] : List (S82)) : List (S82))).bind fun y209 => (if y209.length + l0_4.length < 5864062014805 then ((some (([] : List (S90)) : List (S90))).bind fun y215 => (if y215.length + l0_5.length < 4398046511104 then (some (a0_0, a0_1, a0_2, y206, (y209 ++ l0_4), (y215 ++ l0_5))) else (none))) else (none))) = some (r1, r2, r3, r4, r5, r6) := by first | (rw [hy206]; with_reducible exact H) | (have H2_ := (Option.bind_some _ _).symm.trans H; rw [hy206]; with_reducible exact H2_) | (have H2_ := (Option.bind_some _ _).symm.trans H; with_reducible exact H2_) | with_reducible exact H | (rw [hy206]; exact H) | exact H
  have Ny206 := Aside0.mk hy206
  clear hy206
  obtain ⟨y209, hy209⟩ : ∃ y_ : List (S82), y_ = (([] : List (S82))) := ⟨_, rfl⟩
  replace H : (if y209.length + l0_4.length < 5864062014805 then ((some (([] : List (S90)) : List (S90))).bind fun y215 => (if y215.length + l0_5.length < 4398046511104 then (some (a0_0, a0_1, a0_2, y206, (y209 ++ l0_4), (y215 ++ l0_5))) else (none))) else (none)) = some (r1, r2, r3, r4, r5, r6) := by first | (rw [hy209]; with_reducible exact H) | (have H2_ := (Option.bind_some _ _).symm.trans H; rw [hy209]; with_reducible exact H2_) | (have H2_ := (Option.bind_some _ _).symm.trans H; with_reducible exact H2_) | with_reducible exact H | (rw [hy209]; exact H) | exact H
  have Ny209 := Aside0.mk hy209
  clear hy209
  by_cases c3 : y209.length + l0_4.length < 5864062014805
  ·rw [if_pos c3] at H
   have LMc3 := Aside0.mk c3
   clear c3
   obtain ⟨y212, hy212⟩ : ∃ y_ : List (S82), y_ = (y209 ++ l0_4) := ⟨_, rfl⟩
   replace H : ((some (([] : List (S90)) : List (S90))).bind fun y215 => (if y215.length + l0_5.length < 4398046511104 then (some (a0_0, a0_1, a0_2, y206, y212, (y215 ++ l0_5))) else (none))) = some (r1, r2, r3, r4, r5, r6) := by first | (rw [hy212]; with_reducible exact H) | (have H2_ := (Option.bind_some _ _).symm.trans H; rw [hy212]; with_reducible exact H2_) | (have H2_ := (Option.bind_some _ _).symm.trans H; with_reducible exact H2_) | with_reducible exact H | (rw [hy212]; exact H) | exact H
   have Ny212 := Aside0.mk hy212
   clear hy212
   obtain ⟨y215, hy215⟩ : ∃ y_ : List (S90), y_ = (([] : List (S90))) := ⟨_, rfl⟩
   replace H : (if y215.length + l0_5.length < 4398046511104 then (some (a0_0, a0_1, a0_2, y206, y212, (y215 ++ l0_5))) else (none)) = some (r1, r2, r3, r4, r5, r6) := by first | (rw [hy215]; with_reducible exact H) | (have H2_ := (Option.bind_some _ _).symm.trans H; rw [hy215]; with_reducible exact H2_) | (have H2_ := (Option.bind_some _ _).symm.trans H; with_reducible exact H2_) | with_reducible exact H | (rw [hy215]; exact H) | exact H
   have Ny215 := Aside0.mk hy215
   clear hy215
   by_cases c4 : y215.length + l0_5.length < 4398046511104
   ·rw [if_pos c4] at H
    have LMc4 := Aside0.mk c4
    clear c4
    obtain ⟨y218, hy218⟩ : ∃ y_ : List (S90), y_ = (y215 ++ l0_5) := ⟨_, rfl⟩
    replace H : (some (a0_0, a0_1, a0_2, y206, y212, y218)) = some (r1, r2, r3, r4, r5, r6) := by first | (rw [hy218]; with_reducible exact H) | (have H2_ := (Option.bind_some _ _).symm.trans H; rw [hy218]; with_reducible exact H2_) | (have H2_ := (Option.bind_some _ _).symm.trans H; with_reducible exact H2_) | with_reducible exact H | (rw [hy218]; exact H) | exact H
    have Ny218 := Aside0.mk hy218
    clear hy218
    simp only [Option.some.injEq, Prod.mk.injEq] at H
    obtain ⟨rfl, rfl, rfl, rfl, rfl, rfl⟩ := H
    go_enter Try.func37, Try.ntmps37
    go_wp2_with (first | ((with_reducible refine gate_dst (N := 1) rfl ?_); refine bx_ 1 #[.int .i64 a0_0, .int .i64 a0_1, .int .i64 a0_2, .slice A0_3 l0_3.length c0_3, .slice A0_4 l0_4.length c0_4, .slice A0_5 l0_5.length c0_5] 40 ?_; intro gb200 hg w5 hbox hb; have BK200 := Aside0.mk (hbox); have GW200 := gs_ hg; replace HB := Aside0.mk (below_step oB hb); clear hb hbox hg) | ((with_reducible refine gate_dst (N := 2) rfl ?_); refine bx_ 2 #[.int .i64 0, .int .i64 0, .int .i64 0, .slice none 0 0, .slice none 0 0, .slice none 0 0] 40 ?_; intro gb201 hg w6 hbox hb; have BK201 := Aside0.mk (hbox); have GW201 := gs_ hg; have NB200_201 := nl_ hg BK200; have NB201_200 := nr_ hg BK200; replace BK200 := kb_ BK200 hb; replace HB := Aside0.mk (below_step oB hb); clear hb hbox hg; have hnb7 := NB200_201.out; have hnc7 := NB201_200.out; obtain ⟨⟨_, _, _, _, _, _⟩, _, _, _, _, _, _⟩ := z6 BK200) | ((with_reducible refine gate_dst (N := 3) rfl ?_); refine bx_ 3 #[.int .i64 0, .int .i64 0, .int .i64 0, .slice none 0 0, .slice none 0 0, .slice none 0 0] 40 ?_; intro gb202 hg w9 hbox hb; have BK202 := Aside0.mk (hbox); have GW202 := gs_ hg; have NB200_202 := nl_ hg BK200; have NB202_200 := nr_ hg BK200; have NB201_202 := nl_ hg BK201; have NB202_201 := nr_ hg BK201; replace BK200 := kb_ BK200 hb; replace BK201 := kb_ BK201 hb; replace HB := Aside0.mk (below_step oB hb); clear hb hbox hg; have hnb10 := NB202_200.out; have hnc10 := NB200_202.out; have hnb11 := NB202_201.out; have hnc11 := NB201_202.out; obtain ⟨⟨_, _, _, _, _, _⟩, _, _, _, _, _, _⟩ := z6 BK202) | ((with_reducible refine gate_dst (N := 5) rfl ?_); refine Kd.R_lit (Kd.int .u8) _ 5 ?hg (N := 5) ?hd (xs := ([] : List Int)) (inner := []) (ok := fun _ => True) (okp := fun _ => True) ?hr ?hp (fun _ hk => hk) trivial (Below.refl _ _) (Nat.le_refl _) (by simp) ?_; (case hd => rfl); (case hg => rfl); (case hr => first | (go_simp; done) | (go_simp; rfl)); (case hp => exact (Reps.none _ _)); intro v204 w13 ho14 hb hg_ hnew_; clear hg_ hnew_; (first | rw [← Ny203.out] at ho14 | (simp only [Int.reduceToNat] at ho14; rw [← Ny203.out] at ho14)); have HO205 := Aside0.mk (Kd.R_lower ho14 (below_size oB)); replace BK200 := kb_ BK200 hb; replace BK201 := kb_ BK201 hb; replace BK202 := kp_ #[.int .i64 a0_0, .int .i64 a0_1, .int .i64 a0_2, .slice A0_3 l0_3.length c0_3, .slice A0_4 l0_4.length c0_4, .slice A0_5 l0_5.length c0_5] BK202 hb; replace HB := Aside0.mk (below_step oB hb); clear hb ho14; obtain ⟨⟨_, _, _, _, _, _⟩, _, _, _, _, _, _⟩ := z6 BK200) | ((with_reducible refine gate_builtin (b := .append) (xs := #[.tmp 5, .tmp 7]) rfl ?_); at_builtin; refine Kd.R_append_rows (Kd.int .u8) (w0 := w) w.heap.size rfl (.tmp 5) (.tmp 7) 25 5 (.int .u8 0) 1 rfl Try.underlying25 info5 rfl (by decide) (by omega) v204 y203 l0_3 _ _ _ (fun _ => True) (fun _ => False) rfl rfl ?aO ?aR (fun _ _ h => h) (fun _ h => h.elim) ?aF ?aB ?aS ?aL ?_; (case aR => repeat (first | exact (Kd.C_below HR0_3.out HB.out) | (with_reducible refine Kd.C_alloc ?_ _) | (with_reducible refine Kd.C_drewN ?_ _) | (with_reducible refine Kd.C_drew ?_))); (case aB => exact oB); (case aF => exact (fun _ _ => trivial)); (case aO => exact (oR HO205)); (case aS => exact (below_size oB)); (case aL => have := LMc2.out; omega); intro v207 w16 ho hb hg hat; rw [← Ny206.out] at ho; have HO208 := Aside0.mk (ho); replace BK200 := Aside0.mk (blk_grown (g := gb200) (o := .cells #[.int .i64 a0_0, .int .i64 a0_1, .int .i64 a0_2, .slice A0_3 l0_3.length c0_3, .slice A0_4 l0_4.length c0_4, .slice A0_5 l0_5.length c0_5] 40 (0, 0)) (oF BK200) hg (Kd.R_ne HO205.out BK200.out (by decide))); replace BK201 := Aside0.mk (blk_grown (g := gb201) (o := .cells #[.int .i64 0, .int .i64 0, .int .i64 0, .slice none 0 0, .slice none 0 0, .slice none 0 0] 40 (0, 0)) (oF BK201) hg (Kd.R_ne HO205.out BK201.out (by decide))); replace BK202 := Aside0.mk (blk_grown (g := gb202) (o := .cells #[.int .i64 a0_0, .int .i64 a0_1, .int .i64 a0_2, .slice A0_3 l0_3.length c0_3, .slice A0_4 l0_4.length c0_4, .slice A0_5 l0_5.length c0_5] 40 (0, 0)) (oF BK202) hg (Kd.R_ne HO205.out BK202.out (by decide))); replace HB := Aside0.mk (hb); clear HO205; clear ho hb hg hat; obtain ⟨Ao17, co17, eo17⟩ := Kd.R_slice HO208.out; subst eo17; obtain ⟨⟨_, _, _, _, _, _⟩, _, _, _, _, _, _⟩ := z6 BK202) | ((with_reducible refine gate_dst (N := 10) rfl ?_); refine Kd.R_lit k82 _ 82 ?hg (N := 10) ?hd (xs := ([] : List (S82))) (inner := []) (ok := fun _ => True) (okp := fun _ => True) ?hr ?hp (fun _ hk => hk) trivial (Below.refl _ _) (Nat.le_refl _) (by simp) ?_; (case hd => rfl); (case hg => rfl); (case hr => first | (go_simp; done) | (go_simp; rfl)); (case hp => exact (Reps.none _ _)); intro v210 w19 ho20 hb hg_ hnew_; clear hg_ hnew_; (first | rw [← Ny209.out] at ho20 | (simp only [Int.reduceToNat] at ho20; rw [← Ny209.out] at ho20)); have HO211 := Aside0.mk (Kd.R_lower ho20 (below_size oB)); replace HO208 := Aside0.mk (Kd.R_below (by (with_reducible repeat (first | apply Kd.R_alloc | apply Kd.R_drewN | apply Kd.R_drew)); exact (Kd.R_mono (Kd.R_far (p := ⟨gb202, 3, none⟩) (Kd.R_types HO208.out BK202.out (by decide)) (fun _ hk => hk.2) (.slice Ao17 y206.length co17)) (fun _ h_ => h_.1))) hb); replace BK200 := kb_ BK200 hb; replace BK201 := kb_ BK201 hb; replace BK202 := kp_ #[.int .i64 a0_0, .int .i64 a0_1, .int .i64 a0_2, .slice Ao17 y206.length co17, .slice A0_4 l0_4.length c0_4, .slice A0_5 l0_5.length c0_5] BK202 hb; replace HB := Aside0.mk (below_step oB hb); clear hb ho20; obtain ⟨⟨_, _, _, _, _, _⟩, _, _, _, _, _, _⟩ := z6 BK200) | ((with_reducible refine gate_builtin (b := .append) (xs := #[.tmp 10, .tmp 12]) rfl ?_); at_builtin; refine Kd.R_append_rows k82 (w0 := w) w.heap.size rfl (.tmp 10) (.tmp 12) 37 82 (.agg #[(.string ⟨#[]⟩), (.int .i64 0)]) 24 rfl Try.underlying37 info82 rfl (by decide) (by omega) v210 y209 l0_4 _ _ _ (fun _ => True) (fun _ => False) rfl rfl ?aO ?aR (fun _ _ h => h) (fun _ h => h.elim) ?aF ?aB ?aS ?aL ?_; (case aR => repeat (first | exact (Kd.C_below HR0_4.out HB.out) | (with_reducible refine Kd.C_alloc ?_ _) | (with_reducible refine Kd.C_drewN ?_ _) | (with_reducible refine Kd.C_drew ?_))); (case aB => exact oB); (case aF => exact (fun _ _ => trivial)); (case aO => exact (oR HO211)); (case aS => exact (below_size oB)); (case aL => have := LMc3.out; omega); intro v213 w22 ho hb hg hat; rw [← Ny212.out] at ho; have HO214 := Aside0.mk (ho); replace BK200 := Aside0.mk (blk_grown (g := gb200) (o := .cells #[.int .i64 a0_0, .int .i64 a0_1, .int .i64 a0_2, .slice A0_3 l0_3.length c0_3, .slice A0_4 l0_4.length c0_4, .slice A0_5 l0_5.length c0_5] 40 (0, 0)) (oF BK200) hg (Kd.R_ne HO211.out BK200.out (by decide))); replace BK201 := Aside0.mk (blk_grown (g := gb201) (o := .cells #[.int .i64 0, .int .i64 0, .int .i64 0, .slice none 0 0, .slice none 0 0, .slice none 0 0] 40 (0, 0)) (oF BK201) hg (Kd.R_ne HO211.out BK201.out (by decide))); replace BK202 := Aside0.mk (blk_grown (g := gb202) (o := .cells #[.int .i64 a0_0, .int .i64 a0_1, .int .i64 a0_2, .slice Ao17 y206.length co17, .slice A0_4 l0_4.length c0_4, .slice A0_5 l0_5.length c0_5] 40 (0, 0)) (oF BK202) hg (Kd.R_ne HO211.out BK202.out (by decide))); replace HO208 := Aside0.mk (Kd.R_over' (oR HO208) (Kd.R_typed (oR HO211)) (by decide) hg); replace HB := Aside0.mk (hb); clear HO211; clear ho hb hg hat; obtain ⟨Ao23, co23, eo23⟩ := Kd.R_slice HO214.out; subst eo23; obtain ⟨⟨_, _, _, _, _, _⟩, _, _, _, _, _, _⟩ := z6 BK202) | ((with_reducible refine gate_dst (N := 15) rfl ?_); refine Kd.R_lit k90 _ 90 ?hg (N := 15) ?hd (xs := ([] : List (S90))) (inner := []) (ok := fun _ => True) (okp := fun _ => True) ?hr ?hp (fun _ hk => hk) trivial (Below.refl _ _) (Nat.le_refl _) (by simp) ?_; (case hd => rfl); (case hg => rfl); (case hr => first | (go_simp; done) | (go_simp; rfl)); (case hp => exact (Reps.none _ _)); intro v216 w25 ho26 hb hg_ hnew_; clear hg_ hnew_; (first | rw [← Ny215.out] at ho26 | (simp only [Int.reduceToNat] at ho26; rw [← Ny215.out] at ho26)); have HO217 := Aside0.mk (Kd.R_lower ho26 (below_size oB)); replace HO208 := Aside0.mk (Kd.R_below (by (with_reducible repeat (first | apply Kd.R_alloc | apply Kd.R_drewN | apply Kd.R_drew)); exact (Kd.R_mono (Kd.R_far (p := ⟨gb202, 4, none⟩) (Kd.R_types HO208.out BK202.out (by decide)) (fun _ hk => hk.2) (.slice Ao23 y212.length co23)) (fun _ h_ => h_.1))) hb); replace HO214 := Aside0.mk (Kd.R_below (by (with_reducible repeat (first | apply Kd.R_alloc | apply Kd.R_drewN | apply Kd.R_drew)); exact (Kd.R_mono (Kd.R_far (p := ⟨gb202, 4, none⟩) (Kd.R_types HO214.out BK202.out (by decide)) (fun _ hk => hk.2) (.slice Ao23 y212.length co23)) (fun _ h_ => h_.1))) hb); replace BK200 := kb_ BK200 hb; replace BK201 := kb_ BK201 hb; replace BK202 := kp_ #[.int .i64 a0_0, .int .i64 a0_1, .int .i64 a0_2, .slice Ao17 y206.length co17, .slice Ao23 y212.length co23, .slice A0_5 l0_5.length c0_5] BK202 hb; replace HB := Aside0.mk (below_step oB hb); clear hb ho26; obtain ⟨⟨_, _, _, _, _, _⟩, _, _, _, _, _, _⟩ := z6 BK200) | ((with_reducible refine gate_builtin (b := .append) (xs := #[.tmp 15, .tmp 17]) rfl ?_); at_builtin; refine Kd.R_append_rows k90 (w0 := w) w.heap.size rfl (.tmp 15) (.tmp 17) 38 90 (.agg #[(.string ⟨#[]⟩), (.string ⟨#[]⟩)]) 32 rfl Try.underlying38 info90 rfl (by decide) (by omega) v216 y215 l0_5 _ _ _ (fun _ => True) (fun _ => False) rfl rfl ?aO ?aR (fun _ _ h => h) (fun _ h => h.elim) ?aF ?aB ?aS ?aL ?_; (case aR => repeat (first | exact (Kd.C_below HR0_5.out HB.out) | (with_reducible refine Kd.C_alloc ?_ _) | (with_reducible refine Kd.C_drewN ?_ _) | (with_reducible refine Kd.C_drew ?_))); (case aB => exact oB); (case aF => exact (fun _ _ => trivial)); (case aO => exact (oR HO217)); (case aS => exact (below_size oB)); (case aL => have := LMc4.out; omega); intro v219 w28 ho hb hg hat; rw [← Ny218.out] at ho; have HO220 := Aside0.mk (ho); replace BK200 := Aside0.mk (blk_grown (g := gb200) (o := .cells #[.int .i64 a0_0, .int .i64 a0_1, .int .i64 a0_2, .slice A0_3 l0_3.length c0_3, .slice A0_4 l0_4.length c0_4, .slice A0_5 l0_5.length c0_5] 40 (0, 0)) (oF BK200) hg (Kd.R_ne HO217.out BK200.out (by decide))); replace BK201 := Aside0.mk (blk_grown (g := gb201) (o := .cells #[.int .i64 0, .int .i64 0, .int .i64 0, .slice none 0 0, .slice none 0 0, .slice none 0 0] 40 (0, 0)) (oF BK201) hg (Kd.R_ne HO217.out BK201.out (by decide))); replace BK202 := Aside0.mk (blk_grown (g := gb202) (o := .cells #[.int .i64 a0_0, .int .i64 a0_1, .int .i64 a0_2, .slice Ao17 y206.length co17, .slice Ao23 y212.length co23, .slice A0_5 l0_5.length c0_5] 40 (0, 0)) (oF BK202) hg (Kd.R_ne HO217.out BK202.out (by decide))); replace HO208 := Aside0.mk (Kd.R_over' (oR HO208) (Kd.R_typed (oR HO217)) (by decide) hg); replace HO214 := Aside0.mk (Kd.R_over' (oR HO214) (Kd.R_typed (oR HO217)) (by decide) hg); replace HB := Aside0.mk (hb); clear HO217; clear ho hb hg hat; obtain ⟨Ao29, co29, eo29⟩ := Kd.R_slice HO220.out; subst eo29; obtain ⟨⟨_, _, _, _, _, _⟩, _, _, _, _, _, _⟩ := z6 BK202; obtain ⟨⟨_, _, _, _, _, _⟩, _, _, _, _, _, _⟩ := z6 BK201))
    refine bodyPost_ret (results_cell_row rfl _ _ gb201 40 #[.int .i64 a0_0, .int .i64 a0_1, .int .i64 a0_2, .slice Ao17 y206.length co17, .slice Ao23 y212.length co23, .slice Ao29 y218.length co29] (0, 0) _ rfl (oP BK201) Try.underlying40 rfl (by kernel_rfl)) rfl ?_
    exact ⟨_, _, _, oE, by (with_reducible repeat (first | apply Kd.R_alloc | apply Kd.R_drewN | apply Kd.R_drew)); exact Kd.R_mono (Kd.R_far (p := ⟨gb201, 5, none⟩) (Kd.R_far (p := ⟨gb201, 4, none⟩) (Kd.R_far (p := ⟨gb201, 3, none⟩) (Kd.R_far (p := ⟨gb201, 2, none⟩) (Kd.R_far (p := ⟨gb201, 1, none⟩) (Kd.R_far (p := ⟨gb201, 0, none⟩) (Kd.R_far (p := ⟨gb202, 5, none⟩) (Kd.R_types (Kd.R_types HO208.out BK202.out (by decide)) BK201.out (by decide)) (fun _ hk => hk.1.2) (.slice Ao29 y218.length co29)) (fun _ hk => hk.2) (.int .i64 a0_0)) (fun _ hk => hk.2) (.int .i64 a0_1)) (fun _ hk => hk.2) (.int .i64 a0_2)) (fun _ hk => hk.2) (.slice Ao17 y206.length co17)) (fun _ hk => hk.2) (.slice Ao23 y212.length co23)) (fun _ hk => hk.2) (.slice Ao29 y218.length co29)) (fun _ hk => trivial), by (with_reducible repeat (first | apply Kd.R_alloc | apply Kd.R_drewN | apply Kd.R_drew)); exact Kd.R_mono (Kd.R_far (p := ⟨gb201, 5, none⟩) (Kd.R_far (p := ⟨gb201, 4, none⟩) (Kd.R_far (p := ⟨gb201, 3, none⟩) (Kd.R_far (p := ⟨gb201, 2, none⟩) (Kd.R_far (p := ⟨gb201, 1, none⟩) (Kd.R_far (p := ⟨gb201, 0, none⟩) (Kd.R_far (p := ⟨gb202, 5, none⟩) (Kd.R_types (Kd.R_types HO214.out BK202.out (by decide)) BK201.out (by decide)) (fun _ hk => hk.1.2) (.slice Ao29 y218.length co29)) (fun _ hk => hk.2) (.int .i64 a0_0)) (fun _ hk => hk.2) (.int .i64 a0_1)) (fun _ hk => hk.2) (.int .i64 a0_2)) (fun _ hk => hk.2) (.slice Ao17 y206.length co17)) (fun _ hk => hk.2) (.slice Ao23 y212.length co23)) (fun _ hk => hk.2) (.slice Ao29 y218.length co29)) (fun _ hk => trivial), by (with_reducible repeat (first | apply Kd.R_alloc | apply Kd.R_drewN | apply Kd.R_drew)); exact Kd.R_mono (Kd.R_far (p := ⟨gb201, 5, none⟩) (Kd.R_far (p := ⟨gb201, 4, none⟩) (Kd.R_far (p := ⟨gb201, 3, none⟩) (Kd.R_far (p := ⟨gb201, 2, none⟩) (Kd.R_far (p := ⟨gb201, 1, none⟩) (Kd.R_far (p := ⟨gb201, 0, none⟩) (Kd.R_far (p := ⟨gb202, 5, none⟩) (Kd.R_types (Kd.R_types HO220.out BK202.out (by decide)) BK201.out (by decide)) (fun _ hk => hk.1.2) (.slice Ao29 y218.length co29)) (fun _ hk => hk.2) (.int .i64 a0_0)) (fun _ hk => hk.2) (.int .i64 a0_1)) (fun _ hk => hk.2) (.int .i64 a0_2)) (fun _ hk => hk.2) (.slice Ao17 y206.length co17)) (fun _ hk => hk.2) (.slice Ao23 y212.length co23)) (fun _ hk => hk.2) (.slice Ao29 y218.length co29)) (fun _ hk => trivial), oB⟩
   ·rw [if_neg c4] at H
    exact absurd H (by simp)
  ·rw [if_neg c3] at H
   exact absurd H (by simp)
 ·rw [if_neg c2] at H
  exact absurd H (by simp)

/-! ### spec_InodeAt: function 89 -/
def spec_InodeAt.f (k : Nat) (l0_0 : List (S40)) (a0_1 : Int) (a1 : Int) : Option (Int × Int × Int × List Int × (List (S82)) × (List (S90)) × Bool) := (spec_l4At.f k l0_0 a0_1 a1).bind fun t223 => (if t223 < 0 then (some (0, 0, 0, ([] : List Int), ([] : List (S82)), ([] : List (S90)), false)) else (if 0 ≤ t223 then (if t223 < (l0_0.length : Int) then ((spec_l3Copy.f ((rd_T40 l0_0 t223).f0) ((rd_T40 l0_0 t223).f1) ((rd_T40 l0_0 t223).f2) ((rd_T40 l0_0 t223).f3) ((rd_T40 l0_0 t223).f4) ((rd_T40 l0_0 t223).f5)).bind fun bt225 => (some (bt225.1, bt225.2.1, bt225.2.2.1, bt225.2.2.2.1, bt225.2.2.2.2.1, bt225.2.2.2.2.2, true))) else (none)) else (none)))
set_option maxHeartbeats 8000000 in
set_option maxRecDepth 100000 in
theorem spec_InodeAt.calls (k : Nat) (A0_0 : Option Addr) (c0_0 : Nat) (l0_0 : List (S40)) (a0_1 : Int) (a1 : Int) (r1 : Int) (r2 : Int) (r3 : Int) (r4 : List Int) (r5 : List (S82)) (r6 : List (S90)) (r7 : Bool) (w : World) (hr0_0 : Kd.C k40 w A0_0 l0_0.length l0_0) (hc0_0 : l0_0.length ≤ c0_0) (h : spec_InodeAt.f k l0_0 a0_1 a1 = some (r1, r2, r3, r4, r5, r6, r7)) :
  Calls Try.prog 89 #[.agg #[.slice A0_0 l0_0.length c0_0, .int .i64 a0_1], .int .i64 a1] w fun e w' => ∃ v3_ v4_ v5_ : Value, e = .returned (.tuple #[.agg #[.int .i64 r1, .int .i64 r2, .int .i64 r3, v3_, v4_, v5_], .bool r7]) ∧ Kd.R (Kd.int .u8) 5 w' w.heap.size (fun _ => True) v3_ r4 ∧ Kd.R k82 82 w' w.heap.size (fun _ => True) v4_ r5 ∧ Kd.R k90 90 w' w.heap.size (fun _ => True) v5_ r6 ∧ Below w.heap.size w w' := by
 have hu34 := Try.underlying34
 have hu40 := Try.underlying40
 have HR0_0 := Aside0.mk hr0_0
 have HC0_0 := Aside0.mk hc0_0
 clear hr0_0 hc0_0
 have HB := Aside0.mk (Below.refl w.heap.size w)
 unfold spec_InodeAt.f at h
 have H := h
 clear h
 replace H := bA H
 obtain ⟨t223, A3, H⟩ := H
 try dsimp only at H
 replace H := itD H
 rcases H with ⟨c4b0, H⟩ | ⟨c4b0, H⟩
 ·simp only [Option.some.injEq, Prod.mk.injEq] at H
  obtain ⟨rfl, rfl, rfl, rfl, rfl, rfl, rfl⟩ := H
  go_enter Try.func89, Try.ntmps89
  go_wp2_with (first | ((with_reducible refine gate_dst (N := 2) rfl ?_); refine bx_ 2 #[.slice A0_0 l0_0.length c0_0, .int .i64 a0_1] 34 ?_; intro gb221 hg w5 hbox hb; have BK221 := Aside0.mk (hbox); have GW221 := gs_ hg; replace HB := Aside0.mk (below_step oB hb); clear hb hbox hg) | ((with_reducible refine gate_dst (N := 4) rfl ?_); refine bx_ 4 #[.int .i64 0, .int .i64 0, .int .i64 0, .slice none 0 0, .slice none 0 0, .slice none 0 0] 40 ?_; intro gb222 hg w6 hbox hb; have BK222 := Aside0.mk (hbox); have GW222 := gs_ hg; have NB221_222 := nl_ hg BK221; have NB222_221 := nr_ hg BK221; replace BK221 := kb_ BK221 hb; replace HB := Aside0.mk (below_step oB hb); clear hb hbox hg; have hnb7 := NB221_222.out; have hnc7 := NB222_221.out; obtain ⟨⟨_, _⟩, _, _⟩ := z2 BK221) | ((with_reducible refine gate_callee (f := 36) rfl ?_); refine gl_ 9 Try.func36 (spec_l4At.calls k _ _ l0_0 a0_1 a1 t223 _ (kC HR0_0) HC0_0.out A3.out) ?_; rintro e w9 ⟨rfl, hb⟩; refine ⟨_, rfl, ?_⟩; replace BK221 := kb_ BK221 hb; replace BK222 := kb_ BK222 hb; replace HB := Aside0.mk (below_step oB hb); obtain ⟨⟨_, _, _, _, _, _⟩, _, _, _, _, _, _⟩ := z6 BK222))
  refine bodyPost_ret (results_ct rfl _ _ gb222 40 #[.int .i64 0, .int .i64 0, .int .i64 0, .slice none 0 0, .slice none 0 0, .slice none 0 0] (0, 0) _ rfl (oP BK222) Try.underlying40 rfl (by kernel_rfl)) rfl ?_
  exact ⟨_, _, _, oE, by first | exact Kd.R_nil _ _ _ _ _ | exact Kd.N_nil _ _ _ _ _ | exact Kd.V_nil _ _ _ _ _ | exact Kd.Q_nil _ _ _ _ _ | exact Kd.S_nil _ _ _ _ _, by first | exact Kd.R_nil _ _ _ _ _ | exact Kd.N_nil _ _ _ _ _ | exact Kd.V_nil _ _ _ _ _ | exact Kd.Q_nil _ _ _ _ _ | exact Kd.S_nil _ _ _ _ _, by first | exact Kd.R_nil _ _ _ _ _ | exact Kd.N_nil _ _ _ _ _ | exact Kd.V_nil _ _ _ _ _ | exact Kd.Q_nil _ _ _ _ _ | exact Kd.S_nil _ _ _ _ _, oB⟩
 ·replace H := itD H
  rcases H with ⟨c11b0, H⟩ | ⟨c11b0, H⟩
  ·replace H := itD H
   rcases H with ⟨c12b0, H⟩ | ⟨c12b0, H⟩
   ·replace H := bA H
    obtain ⟨⟨t225, t226, t227, t228, t231, t234⟩, A13, H⟩ := H
    try dsimp only at H
    simp only [Option.some.injEq, Prod.mk.injEq] at H
    obtain ⟨rfl, rfl, rfl, rfl, rfl, rfl, rfl⟩ := H
    go_enter Try.func89, Try.ntmps89
    go_wp2_with (first | ((with_reducible refine gate_dst (N := 2) rfl ?_); refine bx_ 2 #[.slice A0_0 l0_0.length c0_0, .int .i64 a0_1] 34 ?_; intro gb221 hg w14 hbox hb; have BK221 := Aside0.mk (hbox); have GW221 := gs_ hg; replace HB := Aside0.mk (below_step oB hb); clear hb hbox hg) | ((with_reducible refine gate_dst (N := 4) rfl ?_); refine bx_ 4 #[.int .i64 0, .int .i64 0, .int .i64 0, .slice none 0 0, .slice none 0 0, .slice none 0 0] 40 ?_; intro gb222 hg w15 hbox hb; have BK222 := Aside0.mk (hbox); have GW222 := gs_ hg; have NB221_222 := nl_ hg BK221; have NB222_221 := nr_ hg BK221; replace BK221 := kb_ BK221 hb; replace HB := Aside0.mk (below_step oB hb); clear hb hbox hg; have hnb16 := NB221_222.out; have hnc16 := NB222_221.out; obtain ⟨⟨_, _⟩, _, _⟩ := z2 BK221) | ((with_reducible refine gate_callee (f := 36) rfl ?_); refine gl_ 9 Try.func36 (spec_l4At.calls k _ _ l0_0 a0_1 a1 t223 _ (kC HR0_0) HC0_0.out A3.out) ?_; rintro e w18 ⟨rfl, hb⟩; refine ⟨_, rfl, ?_⟩; replace BK221 := kb_ BK221 hb; replace BK222 := kb_ BK222 hb; replace HB := Aside0.mk (below_step oB hb); obtain ⟨⟨_, _⟩, _, _⟩ := z2 BK221; have p224 : (0 ≤ (t223 : Int)) = True := oT; have q224 : (t223 < (l0_0.length : Int)) = True := oT; obtain ⟨ad224, A224_3, c224_3, A224_4, c224_4, A224_5, c224_5, e224, hx224_0, hx224_1, hx224_2, hx224_3, hx224_4, hx224_5, hl224_3, hi224_3, hl224_4, hi224_4, hl224_5, hi224_5⟩ := at_T40 HR0_0.out t223 oa oa; cases e224; replace hx224_0 := cB HB hx224_0; replace hx224_1 := cB HB hx224_1; replace hx224_2 := cB HB hx224_2; replace hx224_3 := cB HB hx224_3; replace hx224_4 := cB HB hx224_4; replace hx224_5 := cB HB hx224_5; have HR224_3 := Aside0.mk hi224_3; have HC224_3 := Aside0.mk hl224_3; clear hi224_3 hl224_3; have HR224_4 := Aside0.mk hi224_4; have HC224_4 := Aside0.mk hl224_4; clear hi224_4 hl224_4; have HR224_5 := Aside0.mk hi224_5; have HC224_5 := Aside0.mk hl224_5; clear hi224_5 hl224_5) | ((with_reducible refine gate_callee (f := 37) rfl ?_); refine gl_ 18 Try.func37 (spec_l3Copy.calls ((rd_T40 l0_0 t223).f0) ((rd_T40 l0_0 t223).f1) ((rd_T40 l0_0 t223).f2) _ _ ((rd_T40 l0_0 t223).f3) _ _ ((rd_T40 l0_0 t223).f4) _ _ ((rd_T40 l0_0 t223).f5) t225 t226 t227 t228 t231 t234 _ (kC HR224_3) HC224_3.out (kC HR224_4) HC224_4.out (kC HR224_5) HC224_5.out A13.out) ?_; rintro e w20 ⟨v229, v232, v235, rfl, ho0, ho1, ho2, hb⟩; refine ⟨_, rfl, ?_⟩; have HO230 := Aside0.mk (Kd.R_lower ho0 (below_size oB)); have HO233 := Aside0.mk (Kd.R_lower ho1 (below_size oB)); have HO236 := Aside0.mk (Kd.R_lower ho2 (below_size oB)); replace BK221 := kb_ BK221 hb; replace BK222 := kb_ BK222 hb; replace HB := Aside0.mk (below_step oB hb); (try clear ho1); (try clear ho2); obtain ⟨⟨_, _, _, _, _, _⟩, _, _, _, _, _, _⟩ := z6 BK222; obtain ⟨Ao22, co22, eo22⟩ := Kd.R_slice HO230.out; subst eo22; obtain ⟨Ao23, co23, eo23⟩ := Kd.R_slice HO233.out; subst eo23; obtain ⟨Ao24, co24, eo24⟩ := Kd.R_slice HO236.out; subst eo24))
    refine bodyPost_ret (results_ct rfl _ _ gb222 40 #[.int .i64 t225, .int .i64 t226, .int .i64 t227, .slice Ao22 t228.length co22, .slice Ao23 t231.length co23, .slice Ao24 t234.length co24] (0, 0) _ rfl (oP BK222) Try.underlying40 rfl (by kernel_rfl)) rfl ?_
    exact ⟨_, _, _, oE, by (with_reducible repeat (first | apply Kd.R_alloc | apply Kd.R_drewN | apply Kd.R_drew)); exact Kd.R_mono (Kd.R_far (p := ⟨gb222, 5, none⟩) (Kd.R_far (p := ⟨gb222, 4, none⟩) (Kd.R_far (p := ⟨gb222, 3, none⟩) (Kd.R_far (p := ⟨gb222, 2, none⟩) (Kd.R_far (p := ⟨gb222, 1, none⟩) (Kd.R_far (p := ⟨gb222, 0, none⟩) (Kd.R_types HO230.out BK222.out (by decide)) (fun _ hk => hk.2) (.int .i64 t225)) (fun _ hk => hk.2) (.int .i64 t226)) (fun _ hk => hk.2) (.int .i64 t227)) (fun _ hk => hk.2) (.slice Ao22 t228.length co22)) (fun _ hk => hk.2) (.slice Ao23 t231.length co23)) (fun _ hk => hk.2) (.slice Ao24 t234.length co24)) (fun _ hk => trivial), by (with_reducible repeat (first | apply Kd.R_alloc | apply Kd.R_drewN | apply Kd.R_drew)); exact Kd.R_mono (Kd.R_far (p := ⟨gb222, 5, none⟩) (Kd.R_far (p := ⟨gb222, 4, none⟩) (Kd.R_far (p := ⟨gb222, 3, none⟩) (Kd.R_far (p := ⟨gb222, 2, none⟩) (Kd.R_far (p := ⟨gb222, 1, none⟩) (Kd.R_far (p := ⟨gb222, 0, none⟩) (Kd.R_types HO233.out BK222.out (by decide)) (fun _ hk => hk.2) (.int .i64 t225)) (fun _ hk => hk.2) (.int .i64 t226)) (fun _ hk => hk.2) (.int .i64 t227)) (fun _ hk => hk.2) (.slice Ao22 t228.length co22)) (fun _ hk => hk.2) (.slice Ao23 t231.length co23)) (fun _ hk => hk.2) (.slice Ao24 t234.length co24)) (fun _ hk => trivial), by (with_reducible repeat (first | apply Kd.R_alloc | apply Kd.R_drewN | apply Kd.R_drew)); exact Kd.R_mono (Kd.R_far (p := ⟨gb222, 5, none⟩) (Kd.R_far (p := ⟨gb222, 4, none⟩) (Kd.R_far (p := ⟨gb222, 3, none⟩) (Kd.R_far (p := ⟨gb222, 2, none⟩) (Kd.R_far (p := ⟨gb222, 1, none⟩) (Kd.R_far (p := ⟨gb222, 0, none⟩) (Kd.R_types HO236.out BK222.out (by decide)) (fun _ hk => hk.2) (.int .i64 t225)) (fun _ hk => hk.2) (.int .i64 t226)) (fun _ hk => hk.2) (.int .i64 t227)) (fun _ hk => hk.2) (.slice Ao22 t228.length co22)) (fun _ hk => hk.2) (.slice Ao23 t231.length co23)) (fun _ hk => hk.2) (.slice Ao24 t234.length co24)) (fun _ hk => trivial), oB⟩
   ·cases H
  ·cases H

/-! ### spec_l7Has: function 104 -/
def spec_l7Has.l0 : Nat → List Int → Int → Int → Option (Bool)
 | 0, _, _, _ => none
 | k + 1, x0, x1, x5 => if x5 < (x0.length : Int) then (if 0 ≤ x5 then (if (rd x0 x5) = x1 then (some true) else (spec_l7Has.l0 k x0 x1 (wrap64 (x5 + 1)))) else (none)) else (some false)
def spec_l7Has.f (k : Nat) (l0 : List Int) (a1 : Int) : Option (Bool) := spec_l7Has.l0 k l0 a1 0
set_option maxHeartbeats 8000000 in
set_option maxRecDepth 100000 in
theorem spec_l7Has.calls (k : Nat) (A0 : Option Addr) (c0 : Nat) (l0 : List Int) (a1 : Int) (r : Bool) (w : World) (hr0 : Kd.C (Kd.int .i64) w A0 l0.length l0) (hc0 : l0.length ≤ c0) (h : spec_l7Has.f k l0 a1 = some r) :
  Calls Try.prog 104 #[.slice A0 l0.length c0, .int .i64 a1] w fun e w' => e = .returned (.bool r) ∧ Drawn0 w w' := by
 have HR0 := Aside0.mk hr0
 have HC0 := Aside0.mk hc0
 clear hr0 hc0
 unfold spec_l7Has.f at h
 have H := h
 clear h
 have H' := Aside0.mk H
 clear H
 go_enter Try.func104, Try.ntmps104
 go_wp2
 go_loopg [5] k (fun kq v5 w' => ∃ (x5_1 : Int), v5 = .int .i64 x5_1 ∧ Aside0 (spec_l7Has.l0 kq l0 a1 x5_1 = some r) ∧ Aside0 (kq ≤ k) ∧ Drawn0 w w')
 case atStart => exact ⟨(0), oS, H', ⟨Nat.le_refl _⟩, oD⟩
 case round =>
  clear H'
  obtain ⟨x5_1, rfl, HA, HK1, ⟨m1, rfl⟩⟩ := hrel
  cases gk with
  | zero => exact absurd HA.out (by simp [spec_l7Has.l0])
  | succ k1 =>
   have H := HA.out
   clear HA
   simp only [spec_l7Has.l0] at H
   replace H := itD H
   rcases H with ⟨c3b0, H⟩ | ⟨c3b0, H⟩
   ·replace H := itD H
    rcases H with ⟨c4b0, H⟩ | ⟨c4b0, H⟩
    ·by_cases c5 : (rd l0 x5_1) = a1
     ·rw [if_pos c5] at H
      have c5b0 : ((rd l0 x5_1) == a1) = true := beq_iff_eq.mpr c5
      have c5b1 : ((rd l0 x5_1) != a1) = false := bne_eq_false_iff_eq.mpr c5
      clear c5
      obtain rfl := Option.some.inj H
      have p237 : (0 ≤ (x5_1 : Int)) = True := oT
      have q237 : (x5_1 < (l0.length : Int)) = True := oT
      obtain ⟨ad237, e237, hx237_0⟩ := Kd.at_int HR0.out x5_1 oa oa
      cases e237
      go_wp2
      go_ret
      exact ⟨oS, oD⟩
     ·rw [if_neg c5] at H
      have c5b0 : ((rd l0 x5_1) == a1) = false := beq_eq_false_iff_ne.mpr c5
      have c5b1 : ((rd l0 x5_1) != a1) = true := bne_iff_ne.mpr c5
      have H' := Aside0.mk H
      clear H
      have p237 : (0 ≤ (x5_1 : Int)) = True := oT
      have q237 : (x5_1 < (l0.length : Int)) = True := oT
      obtain ⟨ad237, e237, hx237_0⟩ := Kd.at_int HR0.out x5_1 oa oa
      cases e237
      go_wp2
      go_roundg k1
      case measure => have := HK1.out; omega
      case rel => exact ⟨(wrap64 (x5_1 + 1)), oS, H', ⟨by have := HK1.out; omega⟩, oD⟩
    ·cases H
   ·obtain rfl := Option.some.inj H
    go_wp2
    go_ret
    exact ⟨oS, oD⟩

/-! ### spec_l7Put: function 90 -/
def spec_l7Put.l0 : Nat → Int → List Int → Int → Option (List Int)
 | 0, _, _, _ => none
 | k + 1, x1, x5, x6 => if x6 > 0 then (if 0 ≤ (wrap64 (x6 - 1)) then (if (wrap64 (x6 - 1)) < (x5.length : Int) then (if (rd x5 (wrap64 (x6 - 1))) > x1 then (if 0 ≤ x6 then (if x6 < (x5.length : Int) then (spec_l7Put.l0 k x1 (x5.set (x6 : Int).toNat (rd x5 (wrap64 (x6 - 1)))) (wrap64 (x6 - 1))) else (none)) else (none)) else (if 0 ≤ x6 then (if x6 < (x5.length : Int) then (some (x5.set (x6 : Int).toNat x1)) else (none)) else (none))) else (none)) else (none)) else (if 0 ≤ x6 then (if x6 < (x5.length : Int) then (some (x5.set (x6 : Int).toNat x1)) else (none)) else (none))
def spec_l7Put.f (k : Nat) (l0 : List Int) (a1 : Int) : Option (List Int) := (spec_l7Has.f k l0 a1).bind fun t238 => (if t238 = true then (some l0) else ((some (([] : List Int) : List Int)).bind fun y242 => (if y242.length + l0.length < 17592186044416 then ((some (y242 ++ l0 : List Int)).bind fun y245 => (if y245.length < 17592186044416 then ((some (y245 ++ [a1] : List Int)).bind fun y248 => (spec_l7Put.l0 k a1 y248 (wrap64 ((y248.length : Int) - 1)))) else (none))) else (none))))
set_option maxHeartbeats 8000000 in
set_option maxRecDepth 100000 in
theorem spec_l7Put.calls (k : Nat) (A0 : Option Addr) (c0 : Nat) (l0 : List Int) (a1 : Int) (r : List Int) (b0 : Nat) (w : World) (hb0 : b0 ≤ w.heap.size) (ho0 : Kd.R (Kd.int .i64) 3 w b0 (fun _ => True) (.slice A0 l0.length c0) l0) (h : spec_l7Put.f k l0 a1 = some r) :
  Calls Try.prog 90 #[.slice A0 l0.length c0, .int .i64 a1] w fun e w' => ∃ v0_ : Value, e = .returned (v0_) ∧ Kd.R (Kd.int .i64) 3 w' b0 (fun _ => True) v0_ r ∧ Below w.heap.size w w' := by
 have HR0 := Aside0.mk (Kd.R_reads' ho0).2.2
 have HC0 := Aside0.mk (Kd.R_reads' ho0).2.1
 have HO00 := Aside0.mk ho0
 have HB0 := Aside0.mk hb0
 clear ho0 hb0
 have HB := Aside0.mk (Below.refl w.heap.size w)
 have H : ((spec_l7Has.f k l0 a1).bind fun t238 => (if t238 = true then (some l0) else ((some (([] : List Int) : List Int)).bind fun y242 => (if y242.length + l0.length < 17592186044416 then ((some (y242 ++ l0 : List Int)).bind fun y245 => (if y245.length < 17592186044416 then ((some (y245 ++ [a1] : List Int)).bind fun y248 => (spec_l7Put.l0 k a1 y248 (wrap64 ((y248.length : Int) - 1)))) else (none))) else (none))))) = some r := h
 clear h
 replace H := Option.bind_eq_some_iff.mp H
 obtain ⟨t238, A30, H⟩ := H
 replace H : (if t238 = true then (some l0) else ((some (([] : List Int) : List Int)).bind fun y242 => (if y242.length + l0.length < 17592186044416 then ((some (y242 ++ l0 : List Int)).bind fun y245 => (if y245.length < 17592186044416 then ((some (y245 ++ [a1] : List Int)).bind fun y248 => (spec_l7Put.l0 k a1 y248 (wrap64 ((y248.length : Int) - 1)))) else (none))) else (none)))) = some r := H
 have A3 := Aside0.mk A30
 clear A30
 by_cases c4 : t238 = true
 ·subst c4
  have H1 : (some l0) = some r := by rw [if_pos rfl] at H; exact H
  clear H
  obtain rfl := Option.some.inj H1
  go_enter Try.func90, Try.ntmps90
  go_wp2_with (first | ((with_reducible refine gate_callee (f := 104) rfl ?_); refine goesL_ (some 9) rfl rfl Try.func104 (by kernel_rfl) rfl #[.slice A0 l0.length c0, .int .i64 a1] rfl oL ?_; (with_reducible refine (spec_l7Has.calls k _ _ l0 a1 true _ ?side1 ?side2 A3.out).mono ?_); (case side1 => repeat (first | exact HR0.out | (with_reducible refine Kd.C_alloc ?_ _) | (with_reducible refine Kd.C_drewN ?_ _) | (with_reducible refine Kd.C_drew ?_))); (case side2 => exact HC0.out); rintro e w' ⟨rfl, ⟨nd, rfl⟩⟩; refine ⟨_, rfl, ?_⟩))
  go_ret
  exact ⟨_, oE, (by (with_reducible repeat (first | apply Kd.R_alloc | apply Kd.R_drewN | apply Kd.R_drew)); exact HO00.out), oB⟩
 ·replace c4 := Bool.eq_false_iff.mpr c4
  subst c4
  have H1 : ((some (([] : List Int) : List Int)).bind fun y242 => (if y242.length + l0.length < 17592186044416 then ((some (y242 ++ l0 : List Int)).bind fun y245 => (if y245.length < 17592186044416 then ((some (y245 ++ [a1] : List Int)).bind fun y248 => (spec_l7Put.l0 k a1 y248 (wrap64 ((y248.length : Int) - 1)))) else (none))) else (none))) = some r := by rw [if_neg (show ¬ (false = true) by decide)] at H; exact H
  clear H
  have H := H1
  clear H1
  obtain ⟨y242, hy242⟩ : ∃ y_ : List Int, y_ = (([] : List Int)) := ⟨_, rfl⟩
  replace H : (if y242.length + l0.length < 17592186044416 then ((some (y242 ++ l0 : List Int)).bind fun y245 => (if y245.length < 17592186044416 then ((some (y245 ++ [a1] : List Int)).bind fun y248 => (spec_l7Put.l0 k a1 y248 (wrap64 ((y248.length : Int) - 1)))) else (none))) else (none)) = some r := by first | (rw [hy242]; with_reducible exact H) | (have H2_ := (Option.bind_some _ _).symm.trans H; rw [hy242]; with_reducible exact H2_) | (have H2_ := (Option.bind_some _ _).symm.trans H; with_reducible exact H2_) | with_reducible exact H | (rw [hy242]; exact H) | exact H
  have Ny242 := Aside0.mk hy242
  clear hy242
  by_cases c7 : y242.length + l0.length < 17592186044416
  ·rw [if_pos c7] at H
   have LMc7 := Aside0.mk c7
   clear c7
   obtain ⟨y245, hy245⟩ : ∃ y_ : List Int, y_ = (y242 ++ l0) := ⟨_, rfl⟩
   replace H : (if y245.length < 17592186044416 then ((some (y245 ++ [a1] : List Int)).bind fun y248 => (spec_l7Put.l0 k a1 y248 (wrap64 ((y248.length : Int) - 1)))) else (none)) = some r := by first | (rw [hy245]; with_reducible exact H) | (have H2_ := (Option.bind_some _ _).symm.trans H; rw [hy245]; with_reducible exact H2_) | (have H2_ := (Option.bind_some _ _).symm.trans H; with_reducible exact H2_) | with_reducible exact H | (rw [hy245]; exact H) | exact H
   have Ny245 := Aside0.mk hy245
   clear hy245
   by_cases c8 : y245.length < 17592186044416
   ·rw [if_pos c8] at H
    have LMc8 := Aside0.mk c8
    clear c8
    obtain ⟨y248, hy248⟩ : ∃ y_ : List Int, y_ = (y245 ++ [a1]) := ⟨_, rfl⟩
    replace H : (spec_l7Put.l0 k a1 y248 (wrap64 ((y248.length : Int) - 1))) = some r := by first | (rw [hy248]; with_reducible exact H) | (have H2_ := (Option.bind_some _ _).symm.trans H; rw [hy248]; with_reducible exact H2_) | (have H2_ := (Option.bind_some _ _).symm.trans H; with_reducible exact H2_) | with_reducible exact H | (rw [hy248]; exact H) | exact H
    have Ny248 := Aside0.mk hy248
    clear hy248
    have H' := Aside0.mk H
    clear H
    go_enter Try.func90, Try.ntmps90
    go_wp2_with (first | ((with_reducible refine gate_callee (f := 104) rfl ?_); refine goesL_ (some 9) rfl rfl Try.func104 (by kernel_rfl) rfl #[.slice A0 l0.length c0, .int .i64 a1] rfl oL ?_; (with_reducible refine (spec_l7Has.calls k _ _ l0 a1 false _ ?side1 ?side2 A3.out).mono ?_); (case side1 => repeat (first | exact HR0.out | (with_reducible refine Kd.C_alloc ?_ _) | (with_reducible refine Kd.C_drewN ?_ _) | (with_reducible refine Kd.C_drew ?_))); (case side2 => exact HC0.out); rintro e w' ⟨rfl, ⟨nd, rfl⟩⟩; refine ⟨_, rfl, ?_⟩) | ((with_reducible refine gate_dst (N := 11) rfl ?_); refine Kd.R_lit (Kd.int .i64) _ 3 ?hg (N := 11) ?hd (xs := ([] : List Int)) (inner := []) (ok := fun _ => True) (okp := fun _ => True) ?hr ?hp (fun _ hk => hk) trivial (Below.refl _ _) (Nat.le_refl _) (by simp) ?_; (case hd => rfl); (case hg => rfl); (case hr => first | (go_simp; done) | (go_simp; rfl)); (case hp => exact (Reps.none _ _)); intro v243 w9 ho10 hb hg_ hnew_; clear hg_ hnew_; (first | rw [← Ny242.out] at ho10 | (simp only [Int.reduceToNat] at ho10; rw [← Ny242.out] at ho10)); have n0_ := Aside0.mk (Kd.R_lower ho10 (below_size oB)); have n1_ := Aside0.mk (below_step oB hb); clear HB; have HO244 := n0_; have HB := n1_; clear n0_ n1_; clear hb ho10) | ((with_reducible refine gate_builtin (b := .append) (xs := #[.tmp 11, .tmp 12]) rfl ?_); at_builtin; refine Kd.R_append_rows (Kd.int .i64) (w0 := w) w.heap.size rfl (.tmp 11) (.tmp 12) 47 3 (.int .i64 0) 8 rfl Try.underlying47 info3 rfl (by decide) (by omega) v243 y242 l0 _ _ _ (fun _ => True) (fun _ => False) rfl rfl ?aO ?aR (fun _ _ h => h) (fun _ h => h.elim) ?aF ?aB ?aS ?aL ?_; (case aR => repeat (first | exact (Kd.C_below HR0.out HB.out) | (with_reducible refine Kd.C_alloc ?_ _) | (with_reducible refine Kd.C_drewN ?_ _) | (with_reducible refine Kd.C_drew ?_))); (case aB => exact oB); (case aF => exact (fun _ _ => trivial)); (case aO => exact (by (with_reducible repeat (first | apply Kd.R_alloc | apply Kd.R_drewN | apply Kd.R_drew)); exact HO244.out)); (case aS => exact (below_size oB)); (case aL => have := LMc7.out; omega); intro v246 w11 ho hb hg hat; rw [← Ny245.out] at ho; have n0_ := Aside0.mk (hb); have n1_ := Aside0.mk (ho); clear HB; clear HO244; have HB := n0_; have HO247 := n1_; clear n0_ n1_; clear ho hb hg hat) | ((with_reducible refine gate_builtin (b := .append) (xs := #[.tmp 13, .tmp 15]) rfl ?_); at_builtin; refine Kd.R_append (Kd.int .i64) (w0 := w) w.heap.size rfl (.tmp 13) (.tmp 15) 47 3 (.int .i64 0) 8 rfl Try.underlying47 info3 rfl (by decide) (by omega) v246 y245 a1 [.int .i64 a1] (fun _ => True) (fun _ => False) rfl rfl ?aP (fun _ hk => hk.elim) ?aF ?aO ?aB ?aS ?aL ?_; (case aP => exact rfl); (case aB => exact oB); (case aF => exact (fun _ _ => trivial)); (case aO => exact (by (with_reducible repeat (first | apply Kd.R_alloc | apply Kd.R_drewN | apply Kd.R_drew)); exact HO247.out)); (case aS => exact (below_size oB)); (case aL => have := LMc8.out; omega); intro v249 w12 ho hb hg hat; rw [← Ny248.out] at ho; have n0_ := Aside0.mk (hb); have n1_ := Aside0.mk (ho); clear HB; clear HO247; have HB := n0_; have HO250 := n1_; clear n0_ n1_; clear ho hb hg hat; obtain ⟨Ao13, co13, eo13⟩ := Kd.R_slice HO250.out; subst eo13))
    go_loopg [6] k (fun kq v6 w' => ∃ (x5_1 : List Int) (x6_1 : Int), v6 = .int .i64 x6_1 ∧ Aside0 (spec_l7Put.l0 kq a1 x5_1 x6_1 = some r) ∧ Aside0 (kq ≤ k) ∧ Aside0 (Kd.R (Kd.int .i64) 3 w' w.heap.size (fun _ => True) (.slice Ao13 y248.length co13) x5_1) ∧ Aside0 (Below w.heap.size w w'))
    case atStart => exact ⟨(y248), (wrap64 ((y248.length : Int) - 1)), oS, H', ⟨Nat.le_refl _⟩, ⟨by (with_reducible repeat (first | apply Kd.R_alloc | apply Kd.R_drewN | apply Kd.R_drew)); exact HO250.out⟩, ⟨oB⟩⟩
    case round =>
     clear H'
     try clear c1
     try clear p2
     try clear c4
     try clear p6
     try clear c7
     try clear c8
     try clear c9
     try clear c10
     obtain ⟨x5_1, x6_1, rfl, HA, HK1, HO_5, HB⟩ := hrel
     have hl5_1 := (Kd.R_reads' HO_5.out).1
     rw [hl5_1] at HO_5
     (try simp only [hl5_1])
     cases gk with
     | zero => exact absurd HA.out (by simp [spec_l7Put.l0])
     | succ k1 =>
      have H := HA.out
      clear HA
      simp only [spec_l7Put.l0] at H
      by_cases c14 : x6_1 > 0
      ·rw [if_pos c14] at H
       have c14b0 : decide (0 < x6_1) = true := decide_eq_true c14
       clear c14
       obtain ⟨ji15, hji15⟩ : ∃ j_ : Int, (wrap64 (x6_1 - 1)) = j_ := ⟨_, rfl⟩
       replace H : (if 0 ≤ (ji15) then (if (ji15) < (x5_1.length : Int) then (if (rd x5_1 (ji15)) > a1 then (if 0 ≤ x6_1 then (if x6_1 < (x5_1.length : Int) then (spec_l7Put.l0 k1 a1 (x5_1.set (x6_1 : Int).toNat (rd x5_1 (ji15))) ji15) else (none)) else (none)) else (if 0 ≤ x6_1 then (if x6_1 < (x5_1.length : Int) then (some (x5_1.set (x6_1 : Int).toNat a1)) else (none)) else (none))) else (none)) else (none)) = some r := by first | (rw [hji15] at H; exact H) | (simp only [hji15] at H ⊢; exact H)
       have hji15w : (IntKind.i64.wrap (x6_1 - 1)) = ji15 := (i64_w _).trans hji15
       by_cases c16 : 0 ≤ (ji15)
       ·rw [if_pos c16] at H
        have c16b0 : decide (0 ≤ (ji15)) = true := decide_eq_true c16
        clear c16
        by_cases c17 : (ji15) < (x5_1.length : Int)
        ·rw [if_pos c17] at H
         have c17b0 : decide ((ji15) < (x5_1.length : Int)) = true := decide_eq_true c17
         clear c17
         by_cases c18 : (rd x5_1 (ji15)) > a1
         ·rw [if_pos c18] at H
          have c18b0 : decide (a1 < (rd x5_1 (ji15))) = true := decide_eq_true c18
          clear c18
          by_cases c19 : 0 ≤ x6_1
          ·rw [if_pos c19] at H
           have c19b0 : decide (0 ≤ x6_1) = true := decide_eq_true c19
           clear c19
           by_cases c20 : x6_1 < (x5_1.length : Int)
           ·rw [if_pos c20] at H
            have c20b0 : decide (x6_1 < (x5_1.length : Int)) = true := decide_eq_true c20
            clear c20
            obtain ⟨y253, hy253⟩ : ∃ y_ : List Int, y_ = (x5_1.set (x6_1 : Int).toNat (rd x5_1 (ji15))) := ⟨_, rfl⟩
            replace H : (spec_l7Put.l0 k1 a1 y253 ji15) = some r := by first | (rw [hy253]; with_reducible exact H) | (have H2_ := (Option.bind_some _ _).symm.trans H; rw [hy253]; with_reducible exact H2_) | (have H2_ := (Option.bind_some _ _).symm.trans H; with_reducible exact H2_) | with_reducible exact H | (rw [hy253]; exact H) | exact H
            have Ny253 := Aside0.mk hy253
            clear hy253
            have H' := Aside0.mk H
            clear H
            have p251 : 0 ≤ ((ji15) : Int) := oa
            have q251 : (ji15) < (x5_1.length : Int) := oa
            obtain ⟨ad251, e251, hx251_0⟩ := Kd.at_int (Kd.R_reads' HO_5.out).2.2 (ji15) p251 q251
            cases e251
            replace p251 := eq_true p251
            replace q251 := eq_true q251
            have p252 : 0 ≤ ((ji15) : Int) := oa
            have q252 : (ji15) < (x5_1.length : Int) := oa
            obtain ⟨ad252, e252, hx252_0⟩ := Kd.at_int (Kd.R_reads' HO_5.out).2.2 (ji15) p252 q252
            obtain rfl : ad251 = ad252 := (by injection e252)
            replace p252 := eq_true p252
            replace q252 := eq_true q252
            have p21 : 0 ≤ (x6_1 : Int) := oa
            have q21 : (x6_1 : Int) < ((x5_1.length : Int) : Int) := oa
            obtain ⟨go21, co21, eo21, gb21, gl21, cl21, HG21⟩ := Kd.R_form HO_5.out (by omega)
            (first | cases eo21 | (injection eo21 with ea_ en_ ec_; (first | subst ea_ | (injection ea_ with ea_; subst ea_)); subst ec_; clear en_))
            have GB21 := Aside0.mk gb21
            have GG21 := Aside0.mk HG21
            clear gb21 gl21 HG21
            (first | simp only [add_plain] at hx251_0 | skip)
            (first | simp only [add_plain] at hx252_0 | skip)
            obtain ⟨hx21_0, hf21_0⟩ := Kd.R_celln 0 HO_5.out (x6_1 : Int) p21 q21
            replace p21 := eq_true p21
            replace q21 := eq_true q21
            have HP22 := Kd.R_putg HO_5.out (x6_1 : Int) (rd x5_1 (ji15))
            go_wp2_with (first | ((with_reducible refine gate_store (t := 3) (p := 38) rfl ?_); refine store_event (t := 3) (p := 38) (v := ?vo_w23) (w1 := (wr.setCell ⟨go21, (x6_1 : Int).toNat, none⟩ (.int .i64 (rd x5_1 (ji15))))) ?hg ?ho ?hn ?hr ?_; (case ho => rfl); (case hg => rfl); (case hn => rfl); (case hr => first | (go_simp; done) | (go_simp; rfl)); intro w23 hw; have hg : wr.grownBy w23 (some go21) := (by rw [hw]; exact HP22.2); have hp_ : Kd.R (Kd.int .i64) 3 w23 w.heap.size (fun _ => True) (.slice (some ⟨go21, 0, none⟩) x5_1.length co13) y253 := (by rw [hw, Ny253.out]; exact HP22.1); clear HP22; have n0_ := Aside0.mk (hp_); have n1_ := Aside0.mk ((by rw [hw]; exact below_set (HB.out) GB21.out : Below w.heap.size w w23)); clear HO_5; clear HB; have HO_5 := n0_; have HB := n1_; clear n0_ n1_; clear hg hw hp_))
            (try simp only [← hl5_1])
            go_roundg k1
            case measure => have := HK1.out; omega
            case rel => exact ⟨(y253), (ji15), (by first | rfl | (simp; done) | (simp only [← hji15] <;> (first | rfl | simp)) | (simp [*]; done)), H', ⟨by have := HK1.out; omega⟩, ⟨by (try simp only [hl5_1]); (with_reducible repeat (first | apply Kd.R_alloc | apply Kd.R_drewN | apply Kd.R_drew)); exact HO_5.out⟩, ⟨oB⟩⟩
           ·rw [if_neg c20] at H
            exact absurd H (by simp)
          ·rw [if_neg c19] at H
           exact absurd H (by simp)
         ·rw [if_neg c18] at H
          have c18b0 : decide (a1 < (rd x5_1 (ji15))) = false := decide_eq_false c18
          clear c18
          by_cases c24 : 0 ≤ x6_1
          ·rw [if_pos c24] at H
           have c24b0 : decide (0 ≤ x6_1) = true := decide_eq_true c24
           clear c24
           by_cases c25 : x6_1 < (x5_1.length : Int)
           ·rw [if_pos c25] at H
            have c25b0 : decide (x6_1 < (x5_1.length : Int)) = true := decide_eq_true c25
            clear c25
            obtain ⟨y254, hy254⟩ : ∃ y_ : List Int, y_ = (x5_1.set (x6_1 : Int).toNat a1) := ⟨_, rfl⟩
            replace H : (some y254) = some r := by first | (rw [hy254]; with_reducible exact H) | (have H2_ := (Option.bind_some _ _).symm.trans H; rw [hy254]; with_reducible exact H2_) | (have H2_ := (Option.bind_some _ _).symm.trans H; with_reducible exact H2_) | with_reducible exact H | (rw [hy254]; exact H) | exact H
            have Ny254 := Aside0.mk hy254
            clear hy254
            obtain rfl := Option.some.inj H
            have p251 : 0 ≤ ((ji15) : Int) := oa
            have q251 : (ji15) < (x5_1.length : Int) := oa
            obtain ⟨ad251, e251, hx251_0⟩ := Kd.at_int (Kd.R_reads' HO_5.out).2.2 (ji15) p251 q251
            cases e251
            replace p251 := eq_true p251
            replace q251 := eq_true q251
            have p26 : 0 ≤ (x6_1 : Int) := oa
            have q26 : (x6_1 : Int) < ((x5_1.length : Int) : Int) := oa
            obtain ⟨go26, co26, eo26, gb26, gl26, cl26, HG26⟩ := Kd.R_form HO_5.out (by omega)
            (first | cases eo26 | (injection eo26 with ea_ en_ ec_; (first | subst ea_ | (injection ea_ with ea_; subst ea_)); subst ec_; clear en_))
            have GB26 := Aside0.mk gb26
            have GG26 := Aside0.mk HG26
            clear gb26 gl26 HG26
            (first | simp only [add_plain] at hx251_0 | skip)
            obtain ⟨hx26_0, hf26_0⟩ := Kd.R_celln 0 HO_5.out (x6_1 : Int) p26 q26
            replace p26 := eq_true p26
            replace q26 := eq_true q26
            have HP27 := Kd.R_putg HO_5.out (x6_1 : Int) a1
            go_wp2_with (first | ((with_reducible refine gate_store (t := 3) (p := 44) rfl ?_); refine store_event (t := 3) (p := 44) (v := ?vo_w28) (w1 := (wr.setCell ⟨go26, (x6_1 : Int).toNat, none⟩ (.int .i64 a1))) ?hg ?ho ?hn ?hr ?_; (case ho => rfl); (case hg => rfl); (case hn => rfl); (case hr => first | (go_simp; done) | (go_simp; rfl)); intro w28 hw; have hg : wr.grownBy w28 (some go26) := (by rw [hw]; exact HP27.2); have hp_ : Kd.R (Kd.int .i64) 3 w28 w.heap.size (fun _ => True) (.slice (some ⟨go26, 0, none⟩) x5_1.length co13) y254 := (by rw [hw, Ny254.out]; exact HP27.1); clear HP27; have n0_ := Aside0.mk (hp_); have n1_ := Aside0.mk ((by rw [hw]; exact below_set (HB.out) GB26.out : Below w.heap.size w w28)); clear HO_5; clear HB; have HO_5 := n0_; have HB := n1_; clear n0_ n1_; clear hg hw hp_))
            go_ret
            exact ⟨_, by first | rfl | (simp [errW_none, errW_some] <;> rfl) | (simp only [← hji15]; first | rfl | (simp [errW_none, errW_some] <;> rfl)) | (simp [*, errW_none, errW_some] <;> rfl), Kd.R_lower (by (with_reducible repeat (first | apply Kd.R_alloc | apply Kd.R_drewN | apply Kd.R_drew)); exact HO_5.out) HB0.out, oB⟩
           ·rw [if_neg c25] at H
            exact absurd H (by simp)
          ·rw [if_neg c24] at H
           exact absurd H (by simp)
        ·rw [if_neg c17] at H
         exact absurd H (by simp)
       ·rw [if_neg c16] at H
        exact absurd H (by simp)
      ·rw [if_neg c14] at H
       have c14b0 : decide (0 < x6_1) = false := decide_eq_false c14
       clear c14
       by_cases c29 : 0 ≤ x6_1
       ·rw [if_pos c29] at H
        have c29b0 : decide (0 ≤ x6_1) = true := decide_eq_true c29
        clear c29
        by_cases c30 : x6_1 < (x5_1.length : Int)
        ·rw [if_pos c30] at H
         have c30b0 : decide (x6_1 < (x5_1.length : Int)) = true := decide_eq_true c30
         clear c30
         obtain ⟨y255, hy255⟩ : ∃ y_ : List Int, y_ = (x5_1.set (x6_1 : Int).toNat a1) := ⟨_, rfl⟩
         replace H : (some y255) = some r := by first | (rw [hy255]; with_reducible exact H) | (have H2_ := (Option.bind_some _ _).symm.trans H; rw [hy255]; with_reducible exact H2_) | (have H2_ := (Option.bind_some _ _).symm.trans H; with_reducible exact H2_) | with_reducible exact H | (rw [hy255]; exact H) | exact H
         have Ny255 := Aside0.mk hy255
         clear hy255
         obtain rfl := Option.some.inj H
         have p31 : 0 ≤ (x6_1 : Int) := oa
         have q31 : (x6_1 : Int) < ((x5_1.length : Int) : Int) := oa
         obtain ⟨go31, co31, eo31, gb31, gl31, cl31, HG31⟩ := Kd.R_form HO_5.out (by omega)
         (first | cases eo31 | (injection eo31 with ea_ en_ ec_; (first | subst ea_ | (injection ea_ with ea_; subst ea_)); subst ec_; clear en_))
         have GB31 := Aside0.mk gb31
         have GG31 := Aside0.mk HG31
         clear gb31 gl31 HG31
         obtain ⟨hx31_0, hf31_0⟩ := Kd.R_celln 0 HO_5.out (x6_1 : Int) p31 q31
         replace p31 := eq_true p31
         replace q31 := eq_true q31
         have HP32 := Kd.R_putg HO_5.out (x6_1 : Int) a1
         go_wp2_with (first | ((with_reducible refine gate_store (t := 3) (p := 44) rfl ?_); refine store_event (t := 3) (p := 44) (v := ?vo_w33) (w1 := (wr.setCell ⟨go31, (x6_1 : Int).toNat, none⟩ (.int .i64 a1))) ?hg ?ho ?hn ?hr ?_; (case ho => rfl); (case hg => rfl); (case hn => rfl); (case hr => first | (go_simp; done) | (go_simp; rfl)); intro w33 hw; have hg : wr.grownBy w33 (some go31) := (by rw [hw]; exact HP32.2); have hp_ : Kd.R (Kd.int .i64) 3 w33 w.heap.size (fun _ => True) (.slice (some ⟨go31, 0, none⟩) x5_1.length co13) y255 := (by rw [hw, Ny255.out]; exact HP32.1); clear HP32; have n0_ := Aside0.mk (hp_); have n1_ := Aside0.mk ((by rw [hw]; exact below_set (HB.out) GB31.out : Below w.heap.size w w33)); clear HO_5; clear HB; have HO_5 := n0_; have HB := n1_; clear n0_ n1_; clear hg hw hp_))
         go_ret
         exact ⟨_, oE, Kd.R_lower (by (with_reducible repeat (first | apply Kd.R_alloc | apply Kd.R_drewN | apply Kd.R_drew)); exact HO_5.out) HB0.out, oB⟩
        ·rw [if_neg c30] at H
         exact absurd H (by simp)
       ·rw [if_neg c29] at H
        exact absurd H (by simp)
   ·rw [if_neg c8] at H
    exact absurd H (by simp)
  ·rw [if_neg c7] at H
   exact absurd H (by simp)

end Go.Proofs.Ytmndnegpclaidaa.P
