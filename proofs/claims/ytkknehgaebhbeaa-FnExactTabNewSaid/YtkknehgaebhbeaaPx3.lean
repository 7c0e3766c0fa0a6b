-- By this session's own program (wip/myprint.py) out of the translation; Lean checks it.
import Derived.Test.YtkknehgaebhbeaaPx0
namespace Go.Proofs.Ytkknehgaebhbeaa.P
open Go.RowKit Go.Proofs.YtkknehgaebhbeaaW.PrintWords Go.Proofs.YtkknehgaebhbeaaW.PrintLast Go.Proofs.YtkknehgaebhbeaaW.PrintMore
attribute [local go_sem] max2_int min2_int max_two min_two max_three min_three max_four min_four   -- for this text's walks alone
set_option linter.unusedVariables false
set_option linter.unusedSimpArgs false

/-! ### laws_eqByteS: function 47 -/
def laws_eqByteS.l0 : Nat → List Int → List Int → Int → Option (Bool)
 | 0, _, _, _ => none
 | k + 1, x0, x1, x5 => if x5 < (x0.length : Int) then (if 0 ≤ x5 then (if x5 < (x1.length : Int) then (if (rd x0 x5) = (rd x1 x5) then (laws_eqByteS.l0 k x0 x1 (wrap64 (x5 + 1))) else (some false)) else (none)) else (none)) else (some true)
def laws_eqByteS.f (k : Nat) (l0 : List Int) (l1 : List Int) : Option (Bool) := if (l0.length : Int) = (l1.length : Int) then (laws_eqByteS.l0 k l0 l1 0) else (some false)
set_option maxHeartbeats 8000000 in
set_option maxRecDepth 100000 in
theorem laws_eqByteS.calls (k : Nat) (A0 : Option Addr) (c0 : Nat) (l0 : List Int) (A1 : Option Addr) (c1 : Nat) (l1 : List Int) (r : Bool) (w : World) (hr0 : Kd.C (Kd.int .u8) w A0 l0.length l0) (hc0 : l0.length ≤ c0) (hr1 : Kd.C (Kd.int .u8) w A1 l1.length l1) (hc1 : l1.length ≤ c1) (h : laws_eqByteS.f k l0 l1 = some r) :
  Calls Try.prog 47 #[.slice A0 l0.length c0, .slice A1 l1.length c1] w fun e w' => e = .returned (.bool r) ∧ Drawn0 w w' := by
 have HR0 := Aside0.mk hr0
 have HC0 := Aside0.mk hc0
 clear hr0 hc0
 have HR1 := Aside0.mk hr1
 have HC1 := Aside0.mk hc1
 clear hr1 hc1
 unfold laws_eqByteS.f at h
 have H := h
 clear h
 by_cases c3 : (l0.length : Int) = (l1.length : Int)
 ·rw [if_pos c3] at H
  have c3b0 : ((l0.length : Int) == (l1.length : Int)) = true := beq_iff_eq.mpr c3
  have c3b1 : ((l0.length : Int) != (l1.length : Int)) = false := bne_eq_false_iff_eq.mpr c3
  have c3b2 : (l0.length == l1.length) = true := by first | simpa using c3 | (simp at c3 ⊢; omega)
  clear c3
  have H' := Aside0.mk H
  clear H
  go_enter Try.func47, Try.ntmps47
  go_wp2
  repeat (go_quiet (fail); try go_wp2)
  go_loopg [5] k (fun kq v5 w' => ∃ (x5_1 : Int), v5 = .int .i64 x5_1 ∧ Aside0 (laws_eqByteS.l0 kq l0 l1 x5_1 = some r) ∧ Aside0 (kq ≤ k) ∧ Drawn0 w w')
  case atStart => exact ⟨(0), oS, H', ⟨Nat.le_refl _⟩, oD⟩
  case round =>
   clear H'
   try clear c1
   try clear c3
   obtain ⟨x5_1, rfl, HA, HK1, ⟨m1, rfl⟩⟩ := hrel
   cases gk with
   | zero => exact absurd HA.out (by simp [laws_eqByteS.l0])
   | succ k1 =>
    have H := HA.out
    clear HA
    simp only [laws_eqByteS.l0] at H
    replace H := itD H
    rcases H with ⟨c4b0, H⟩ | ⟨c4b0, H⟩
    ·replace H := itD H
     rcases H with ⟨c5b0, H⟩ | ⟨c5b0, H⟩
     ·replace H := itD H
      rcases H with ⟨c6b0, H⟩ | ⟨c6b0, H⟩
      ·by_cases c7 : (rd l0 x5_1) = (rd l1 x5_1)
       ·rw [if_pos c7] at H
        have c7b0 : ((rd l0 x5_1) == (rd l1 x5_1)) = true := beq_iff_eq.mpr c7
        have c7b1 : ((rd l0 x5_1) != (rd l1 x5_1)) = false := bne_eq_false_iff_eq.mpr c7
        clear c7
        have H' := Aside0.mk H
        clear H
        have p101 : (0 ≤ (x5_1 : Int)) = True := oT
        have q101 : (x5_1 < (l0.length : Int)) = True := oT
        obtain ⟨ad101, e101, hx101_0⟩ := Kd.at_int HR0.out x5_1 oa oa
        cases e101
        have p102 : (0 ≤ (x5_1 : Int)) = True := oT
        have q102 : (x5_1 < (l1.length : Int)) = True := oT
        obtain ⟨ad102, e102, hx102_0⟩ := Kd.at_int HR1.out x5_1 oa oa
        cases e102
        go_wp2
        repeat (go_quiet (fail); try go_wp2)
        go_roundg k1
        case measure => have := HK1.out; omega
        case rel => exact ⟨(wrap64 (x5_1 + 1)), oS, H', ⟨by have := HK1.out; omega⟩, oD⟩
       ·rw [if_neg c7] at H
        have c7b0 : ((rd l0 x5_1) == (rd l1 x5_1)) = false := beq_eq_false_iff_ne.mpr c7
        have c7b1 : ((rd l0 x5_1) != (rd l1 x5_1)) = true := bne_iff_ne.mpr c7
        obtain rfl := Option.some.inj H
        have p101 : (0 ≤ (x5_1 : Int)) = True := oT
        have q101 : (x5_1 < (l0.length : Int)) = True := oT
        obtain ⟨ad101, e101, hx101_0⟩ := Kd.at_int HR0.out x5_1 oa oa
        cases e101
        have p102 : (0 ≤ (x5_1 : Int)) = True := oT
        have q102 : (x5_1 < (l1.length : Int)) = True := oT
        obtain ⟨ad102, e102, hx102_0⟩ := Kd.at_int HR1.out x5_1 oa oa
        cases e102
        go_wp2
        repeat (go_quiet (fail); try go_wp2)
        go_ret
        exact ⟨oS, oD⟩
      ·cases H
     ·cases H
    ·obtain rfl := Option.some.inj H
     go_wp2
     repeat (go_quiet (fail); try go_wp2)
     go_ret
     exact ⟨oS, oD⟩
 ·rw [if_neg c3] at H
  have c3b0 : ((l0.length : Int) == (l1.length : Int)) = false := beq_eq_false_iff_ne.mpr c3
  have c3b1 : ((l0.length : Int) != (l1.length : Int)) = true := bne_iff_ne.mpr c3
  have c3b2 : (l0.length == l1.length) = false := by first | simpa using c3 | (simp at c3 ⊢; omega)
  obtain rfl := Option.some.inj H
  go_enter Try.func47, Try.ntmps47
  go_wp2
  repeat (go_quiet (fail); try go_wp2)
  go_ret
  exact ⟨oS, oD⟩

/-! ### laws_eqEnt: function 129 -/
def laws_eqEnt.f (a0_0 : ByteArray) (a0_1 : Int) (a1_0 : ByteArray) (a1_1 : Int) : Option (Bool) := if a0_0.toList = a1_0.toList then (if a0_1 = a1_1 then (some true) else (some false)) else (some false)
set_option maxHeartbeats 8000000 in
set_option maxRecDepth 100000 in
theorem laws_eqEnt.calls (a0_0 : ByteArray) (a0_1 : Int) (a1_0 : ByteArray) (a1_1 : Int) (r : Bool) (w : World) (h : laws_eqEnt.f a0_0 a0_1 a1_0 a1_1 = some r) :
  Calls Try.prog 129 #[.agg #[.string a0_0, .int .i64 a0_1], .agg #[.string a1_0, .int .i64 a1_1]] w fun e w' => e = .returned (.bool r) ∧ Below w.heap.size w w' := by
 have hu83 := Try.underlying83
 have HB := Aside0.mk (Below.refl w.heap.size w)
 unfold laws_eqEnt.f at h
 have H := h
 clear h
 by_cases c3 : a0_0.toList = a1_0.toList
 ·rw [if_pos c3] at H
  have c3b0 : (a0_0.toList == a1_0.toList) = true := beq_iff_eq.mpr c3
  have c3b1 : (a0_0.toList != a1_0.toList) = false := bne_eq_false_iff_eq.mpr c3
  clear c3
  by_cases c4 : a0_1 = a1_1
  ·rw [if_pos c4] at H
   have c4b0 : (a0_1 == a1_1) = true := beq_iff_eq.mpr c4
   have c4b1 : (a0_1 != a1_1) = false := bne_eq_false_iff_eq.mpr c4
   clear c4
   obtain rfl := Option.some.inj H
   go_enter Try.func129, Try.ntmps129
   go_wp2_with (first | ((with_reducible refine gate_dst (N := 2) rfl ?_); refine bx_ 2 #[.string a0_0, .int .i64 a0_1] 83 ?_; intro gb103 hg w5 hbox hb; have BK103 := Aside0.mk (hbox); have GW103 := gs_ hg; have GE103 := gs_ hg; replace HB := Aside0.mk (below_step oB hb); clear hb hbox hg) | ((with_reducible refine gate_dst (N := 3) rfl ?_); refine bx_ 3 #[.string a1_0, .int .i64 a1_1] 83 ?_; intro gb104 hg w6 hbox hb; have BK104 := Aside0.mk (hbox); have GW104 := gs_ hg; have GE104 := gs_ hg; have NB103_104 := nl_ hg BK103; have NB104_103 := nr_ hg BK103; replace BK103 := kb_ BK103 hb; replace HB := Aside0.mk (below_step oB hb); clear hb hbox hg; have hnb7 := NB103_104.out; have hnc7 := NB104_103.out; obtain ⟨⟨_, _⟩, _, _⟩ := z2 BK103; obtain ⟨⟨_, _⟩, _, _⟩ := z2 BK104))
   go_ret
   exact ⟨oE, oB⟩
  ·rw [if_neg c4] at H
   have c4b0 : (a0_1 == a1_1) = false := beq_eq_false_iff_ne.mpr c4
   have c4b1 : (a0_1 != a1_1) = true := bne_iff_ne.mpr c4
   obtain rfl := Option.some.inj H
   go_enter Try.func129, Try.ntmps129
   go_wp2_with (first | ((with_reducible refine gate_dst (N := 2) rfl ?_); refine bx_ 2 #[.string a0_0, .int .i64 a0_1] 83 ?_; intro gb103 hg w10 hbox hb; have BK103 := Aside0.mk (hbox); have GW103 := gs_ hg; have GE103 := gs_ hg; replace HB := Aside0.mk (below_step oB hb); clear hb hbox hg) | ((with_reducible refine gate_dst (N := 3) rfl ?_); refine bx_ 3 #[.string a1_0, .int .i64 a1_1] 83 ?_; intro gb104 hg w11 hbox hb; have BK104 := Aside0.mk (hbox); have GW104 := gs_ hg; have GE104 := gs_ hg; have NB103_104 := nl_ hg BK103; have NB104_103 := nr_ hg BK103; replace BK103 := kb_ BK103 hb; replace HB := Aside0.mk (below_step oB hb); clear hb hbox hg; have hnb12 := NB103_104.out; have hnc12 := NB104_103.out; obtain ⟨⟨_, _⟩, _, _⟩ := z2 BK103; obtain ⟨⟨_, _⟩, _, _⟩ := z2 BK104))
   go_ret
   exact ⟨oE, oB⟩
 ·rw [if_neg c3] at H
  have c3b0 : (a0_0.toList == a1_0.toList) = false := beq_eq_false_iff_ne.mpr c3
  have c3b1 : (a0_0.toList != a1_0.toList) = true := bne_iff_ne.mpr c3
  obtain rfl := Option.some.inj H
  go_enter Try.func129, Try.ntmps129
  go_wp2_with (first | ((with_reducible refine gate_dst (N := 2) rfl ?_); refine bx_ 2 #[.string a0_0, .int .i64 a0_1] 83 ?_; intro gb103 hg w15 hbox hb; have BK103 := Aside0.mk (hbox); have GW103 := gs_ hg; have GE103 := gs_ hg; replace HB := Aside0.mk (below_step oB hb); clear hb hbox hg) | ((with_reducible refine gate_dst (N := 3) rfl ?_); refine bx_ 3 #[.string a1_0, .int .i64 a1_1] 83 ?_; intro gb104 hg w16 hbox hb; have BK104 := Aside0.mk (hbox); have GW104 := gs_ hg; have GE104 := gs_ hg; have NB103_104 := nl_ hg BK103; have NB104_103 := nr_ hg BK103; replace BK103 := kb_ BK103 hb; replace HB := Aside0.mk (below_step oB hb); clear hb hbox hg; have hnb17 := NB103_104.out; have hnc17 := NB104_103.out; obtain ⟨⟨_, _⟩, _, _⟩ := z2 BK103; obtain ⟨⟨_, _⟩, _, _⟩ := z2 BK104))
  go_ret
  exact ⟨oE, oB⟩

/-! ### laws_eqEntS: function 83 -/
def laws_eqEntS.l0 : Nat → List (S83) → List (S83) → Int → Option (Bool)
 | 0, _, _, _ => none
 | k + 1, x0, x1, x5 => if x5 < (x0.length : Int) then (if 0 ≤ x5 then (if x5 < (x1.length : Int) then ((laws_eqEnt.f ((rd_T83 x0 x5).f0) ((rd_T83 x0 x5).f1) ((rd_T83 x1 x5).f0) ((rd_T83 x1 x5).f1)).bind fun t107 => (if t107 = true then (laws_eqEntS.l0 k x0 x1 (wrap64 (x5 + 1))) else (some false))) else (none)) else (none)) else (some true)
def laws_eqEntS.f (k : Nat) (l0 : List (S83)) (l1 : List (S83)) : Option (Bool) := if (l0.length : Int) = (l1.length : Int) then (laws_eqEntS.l0 k l0 l1 0) else (some false)
def laws_eqEntS.T6 : Bool × List (List Nat × List Nat) := (true, [([], []), ([], []), ([0, 1], [0, 1]), ([2], [2]), ([], []), ([], []), ([4, 5], [4, 5]), ([6], [6]), ([3, 7], [3, 7]), ([8], [8])])
def laws_eqEntS.B6 : List Nat := [0, 0, 3, 7, 0, 0, 48, 112, 255, 511]
theorem laws_eqEntS.tab6 : rtab .any (opsOf Try.f83 6) = laws_eqEntS.T6 := by kernel_rfl
theorem laws_eqEntS.bits6 : waitsOk laws_eqEntS.T6.2 laws_eqEntS.B6 = true := by kernel_rfl
set_option maxHeartbeats 8000000 in
set_option maxRecDepth 100000 in
theorem laws_eqEntS.calls (k : Nat) (A0 : Option Addr) (c0 : Nat) (l0 : List (S83)) (A1 : Option Addr) (c1 : Nat) (l1 : List (S83)) (r : Bool) (w : World) (hr0 : Kd.C k83 w A0 l0.length l0) (hc0 : l0.length ≤ c0) (hr1 : Kd.C k83 w A1 l1.length l1) (hc1 : l1.length ≤ c1) (h : laws_eqEntS.f k l0 l1 = some r) :
  Calls Try.prog 83 #[.slice A0 l0.length c0, .slice A1 l1.length c1] w fun e w' => e = .returned (.bool r) ∧ Below w.heap.size w w' := by
 have hu83 := Try.underlying83
 have HR0 := Aside0.mk hr0
 have HC0 := Aside0.mk hc0
 clear hr0 hc0
 have HR1 := Aside0.mk hr1
 have HC1 := Aside0.mk hc1
 clear hr1 hc1
 have HB := Aside0.mk (Below.refl w.heap.size w)
 unfold laws_eqEntS.f at h
 have H := h
 clear h
 by_cases c3 : (l0.length : Int) = (l1.length : Int)
 ·rw [if_pos c3] at H
  have c3b0 : ((l0.length : Int) == (l1.length : Int)) = true := beq_iff_eq.mpr c3
  have c3b1 : ((l0.length : Int) != (l1.length : Int)) = false := bne_eq_false_iff_eq.mpr c3
  have c3b2 : (l0.length == l1.length) = true := by first | simpa using c3 | (simp at c3 ⊢; omega)
  clear c3
  have H' := Aside0.mk H
  clear H
  go_enter Try.func83, Try.ntmps83
  go_wp2
  go_loopg [5] k (fun kq v5 w' => ∃ (x5_1 : Int), v5 = .int .i64 x5_1 ∧ Aside0 (laws_eqEntS.l0 kq l0 l1 x5_1 = some r) ∧ Aside0 (kq ≤ k) ∧ Aside0 (Below w.heap.size w w'))
  case atStart => exact ⟨(0), oS, H', ⟨Nat.le_refl _⟩, ⟨oB⟩⟩
  case round =>
   clear H'
   try clear c1
   try clear c3
   obtain ⟨x5_1, rfl, HA, HK1, HB⟩ := hrel
   cases gk with
   | zero => exact absurd HA.out (by simp [laws_eqEntS.l0])
   | succ k1 =>
    have H := HA.out
    clear HA
    simp only [laws_eqEntS.l0] at H
    replace H := itD H
    rcases H with ⟨c4b0, H⟩ | ⟨c4b0, H⟩
    ·replace H := itD H
     rcases H with ⟨c5b0, H⟩ | ⟨c5b0, H⟩
     ·replace H := itD H
      rcases H with ⟨c6b0, H⟩ | ⟨c6b0, H⟩
      ·replace H := bA H
       obtain ⟨t107, A7, H⟩ := H
       try dsimp only at H
       replace H := itB H
       rcases H with ⟨rfl, H⟩ | ⟨rfl, H⟩
       ·have H' := Aside0.mk H
        clear H
        try go_wp2
        replace HB := Aside0.mk (below_drew1 HB.out)
        have p105 : (0 ≤ (x5_1 : Int)) = True := oT
        have q105 : (x5_1 < (l0.length : Int)) = True := oT
        obtain ⟨ad105, e105, hx105_0, hx105_1⟩ := at_T83 HR0.out x5_1 oa oa
        have hw105_1 := hx105_1
        have hw105_0 := hx105_0
        cases e105
        replace hx105_0 := cB HB hx105_0
        replace hx105_1 := cB HB hx105_1
        have p106 : (0 ≤ (x5_1 : Int)) = True := oT
        have q106 : (x5_1 < (l1.length : Int)) = True := oT
        obtain ⟨ad106, e106, hx106_0, hx106_1⟩ := at_T83 HR1.out x5_1 oa oa
        have hw106_1 := hx106_1
        have hw106_0 := hx106_0
        cases e106
        replace hx106_0 := cB HB hx106_0
        replace hx106_1 := cB HB hx106_1
        refine st_ 10 (fun w' => w'.cell? (ad105.add ((x5_1).toNat * 2)) = some (.string ((rd_T83 l0 x5_1).f0)) ∧ w'.cell? ⟨(ad105.add ((x5_1).toNat * 2)).block, (ad105.add ((x5_1).toNat * 2)).off + 1, none⟩ = some (.int .i64 ((rd_T83 l0 x5_1).f1)) ∧ w'.cell? (ad106.add ((x5_1).toNat * 2)) = some (.string ((rd_T83 l1 x5_1).f0)) ∧ w'.cell? ⟨(ad106.add ((x5_1).toNat * 2)).block, (ad106.add ((x5_1).toNat * 2)).off + 1, none⟩ = some (.int .i64 ((rd_T83 l1 x5_1).f1))) laws_eqEntS.tab6 laws_eqEntS.bits6 oH (fun hHeld HT_ HW_ => ?_)
        generalize wr.drew = w9 at HB hx105_0 hx105_1 hx106_0 hx106_1 hHeld ⊢
        refine pu_ 0 17 HT_ ?_
        refine pu_ 1 18 HT_ ?_
        refine pu_ 2 19 HT_ ?_
        refine pu_ 4 21 HT_ ?_
        refine pu_ 5 22 HT_ ?_
        refine pu_ 6 23 HT_ ?_
        refine ta_ 3 20 HT_ HW_ hHeld ?_
        refine ta_ 7 24 HT_ HW_ hHeld ?_
        refine on_ 8 25 HT_ (fun K hK => ?_)
        refine gr_ 25 Try.func129 (laws_eqEnt.calls ((rd_T83 l0 x5_1).f0) ((rd_T83 l0 x5_1).f1) ((rd_T83 l1 x5_1).f0) ((rd_T83 l1 x5_1).f1) true _ A7.out) ?_
        rintro e w10 ⟨rfl, hb⟩
        refine ⟨_, rfl, ?_⟩
        replace HB := Aside0.mk (below_step oB hb)
        refine hk_ hK 25 oH (fun hHeld => ?_)
        clear hK K
        refine pu_ 9 26 HT_ ?_
        refine dn_ HT_ ?_
        try go_wp2
        go_roundg k1
        case measure => have := HK1.out; omega
        case rel => exact ⟨(wrap64 (x5_1 + 1)), oS, H', ⟨by have := HK1.out; omega⟩, ⟨oB⟩⟩
       ·obtain rfl := Option.some.inj H
        try go_wp2
        replace HB := Aside0.mk (below_drew1 HB.out)
        have p105 : (0 ≤ (x5_1 : Int)) = True := oT
        have q105 : (x5_1 < (l0.length : Int)) = True := oT
        obtain ⟨ad105, e105, hx105_0, hx105_1⟩ := at_T83 HR0.out x5_1 oa oa
        have hw105_1 := hx105_1
        have hw105_0 := hx105_0
        cases e105
        replace hx105_0 := cB HB hx105_0
        replace hx105_1 := cB HB hx105_1
        have p106 : (0 ≤ (x5_1 : Int)) = True := oT
        have q106 : (x5_1 < (l1.length : Int)) = True := oT
        obtain ⟨ad106, e106, hx106_0, hx106_1⟩ := at_T83 HR1.out x5_1 oa oa
        have hw106_1 := hx106_1
        have hw106_0 := hx106_0
        cases e106
        replace hx106_0 := cB HB hx106_0
        replace hx106_1 := cB HB hx106_1
        refine st_ 10 (fun w' => w'.cell? (ad105.add ((x5_1).toNat * 2)) = some (.string ((rd_T83 l0 x5_1).f0)) ∧ w'.cell? ⟨(ad105.add ((x5_1).toNat * 2)).block, (ad105.add ((x5_1).toNat * 2)).off + 1, none⟩ = some (.int .i64 ((rd_T83 l0 x5_1).f1)) ∧ w'.cell? (ad106.add ((x5_1).toNat * 2)) = some (.string ((rd_T83 l1 x5_1).f0)) ∧ w'.cell? ⟨(ad106.add ((x5_1).toNat * 2)).block, (ad106.add ((x5_1).toNat * 2)).off + 1, none⟩ = some (.int .i64 ((rd_T83 l1 x5_1).f1))) laws_eqEntS.tab6 laws_eqEntS.bits6 oH (fun hHeld HT_ HW_ => ?_)
        generalize wr.drew = w11 at HB hx105_0 hx105_1 hx106_0 hx106_1 hHeld ⊢
        refine pu_ 0 17 HT_ ?_
        refine pu_ 1 18 HT_ ?_
        refine pu_ 2 19 HT_ ?_
        refine pu_ 4 21 HT_ ?_
        refine pu_ 5 22 HT_ ?_
        refine pu_ 6 23 HT_ ?_
        refine ta_ 3 20 HT_ HW_ hHeld ?_
        refine ta_ 7 24 HT_ HW_ hHeld ?_
        refine on_ 8 25 HT_ (fun K hK => ?_)
        refine gr_ 25 Try.func129 (laws_eqEnt.calls ((rd_T83 l0 x5_1).f0) ((rd_T83 l0 x5_1).f1) ((rd_T83 l1 x5_1).f0) ((rd_T83 l1 x5_1).f1) false _ A7.out) ?_
        rintro e w12 ⟨rfl, hb⟩
        refine ⟨_, rfl, ?_⟩
        replace HB := Aside0.mk (below_step oB hb)
        refine hk_ hK 25 oH (fun hHeld => ?_)
        clear hK K
        refine pu_ 9 26 HT_ ?_
        refine dn_ HT_ ?_
        try go_wp2
        go_ret
        exact ⟨oE, oB⟩
      ·cases H
     ·cases H
    ·obtain rfl := Option.some.inj H
     go_wp2
     go_ret
     exact ⟨oE, oB⟩
 ·rw [if_neg c3] at H
  have c3b0 : ((l0.length : Int) == (l1.length : Int)) = false := beq_eq_false_iff_ne.mpr c3
  have c3b1 : ((l0.length : Int) != (l1.length : Int)) = true := bne_iff_ne.mpr c3
  have c3b2 : (l0.length == l1.length) = false := by first | simpa using c3 | (simp at c3 ⊢; omega)
  obtain rfl := Option.some.inj H
  go_enter Try.func83, Try.ntmps83
  go_wp2
  go_ret
  exact ⟨oE, oB⟩

/-! ### laws_eqAttr: function 130 -/
def laws_eqAttr.f (a0_0 : ByteArray) (a0_1 : ByteArray) (a1_0 : ByteArray) (a1_1 : ByteArray) : Option (Bool) := if a0_0.toList = a1_0.toList then (if a0_1.toList = a1_1.toList then (some true) else (some false)) else (some false)
set_option maxHeartbeats 8000000 in
set_option maxRecDepth 100000 in
theorem laws_eqAttr.calls (a0_0 : ByteArray) (a0_1 : ByteArray) (a1_0 : ByteArray) (a1_1 : ByteArray) (r : Bool) (w : World) (h : laws_eqAttr.f a0_0 a0_1 a1_0 a1_1 = some r) :
  Calls Try.prog 130 #[.agg #[.string a0_0, .string a0_1], .agg #[.string a1_0, .string a1_1]] w fun e w' => e = .returned (.bool r) ∧ Below w.heap.size w w' := by
 have hu85 := Try.underlying85
 have HB := Aside0.mk (Below.refl w.heap.size w)
 unfold laws_eqAttr.f at h
 have H := h
 clear h
 by_cases c3 : a0_0.toList = a1_0.toList
 ·rw [if_pos c3] at H
  have c3b0 : (a0_0.toList == a1_0.toList) = true := beq_iff_eq.mpr c3
  have c3b1 : (a0_0.toList != a1_0.toList) = false := bne_eq_false_iff_eq.mpr c3
  clear c3
  by_cases c4 : a0_1.toList = a1_1.toList
  ·rw [if_pos c4] at H
   have c4b0 : (a0_1.toList == a1_1.toList) = true := beq_iff_eq.mpr c4
   have c4b1 : (a0_1.toList != a1_1.toList) = false := bne_eq_false_iff_eq.mpr c4
   clear c4
   obtain rfl := Option.some.inj H
   go_enter Try.func130, Try.ntmps130
   go_wp2_with (first | ((with_reducible refine gate_dst (N := 2) rfl ?_); refine bx_ 2 #[.string a0_0, .string a0_1] 85 ?_; intro gb108 hg w5 hbox hb; have BK108 := Aside0.mk (hbox); have GW108 := gs_ hg; have GE108 := gs_ hg; replace HB := Aside0.mk (below_step oB hb); clear hb hbox hg) | ((with_reducible refine gate_dst (N := 3) rfl ?_); refine bx_ 3 #[.string a1_0, .string a1_1] 85 ?_; intro gb109 hg w6 hbox hb; have BK109 := Aside0.mk (hbox); have GW109 := gs_ hg; have GE109 := gs_ hg; have NB108_109 := nl_ hg BK108; have NB109_108 := nr_ hg BK108; replace BK108 := kb_ BK108 hb; replace HB := Aside0.mk (below_step oB hb); clear hb hbox hg; have hnb7 := NB108_109.out; have hnc7 := NB109_108.out; obtain ⟨⟨_, _⟩, _, _⟩ := z2 BK108; obtain ⟨⟨_, _⟩, _, _⟩ := z2 BK109))
   go_ret
   exact ⟨oE, oB⟩
  ·rw [if_neg c4] at H
   have c4b0 : (a0_1.toList == a1_1.toList) = false := beq_eq_false_iff_ne.mpr c4
   have c4b1 : (a0_1.toList != a1_1.toList) = true := bne_iff_ne.mpr c4
   obtain rfl := Option.some.inj H
   go_enter Try.func130, Try.ntmps130
   go_wp2_with (first | ((with_reducible refine gate_dst (N := 2) rfl ?_); refine bx_ 2 #[.string a0_0, .string a0_1] 85 ?_; intro gb108 hg w10 hbox hb; have BK108 := Aside0.mk (hbox); have GW108 := gs_ hg; have GE108 := gs_ hg; replace HB := Aside0.mk (below_step oB hb); clear hb hbox hg) | ((with_reducible refine gate_dst (N := 3) rfl ?_); refine bx_ 3 #[.string a1_0, .string a1_1] 85 ?_; intro gb109 hg w11 hbox hb; have BK109 := Aside0.mk (hbox); have GW109 := gs_ hg; have GE109 := gs_ hg; have NB108_109 := nl_ hg BK108; have NB109_108 := nr_ hg BK108; replace BK108 := kb_ BK108 hb; replace HB := Aside0.mk (below_step oB hb); clear hb hbox hg; have hnb12 := NB108_109.out; have hnc12 := NB109_108.out; obtain ⟨⟨_, _⟩, _, _⟩ := z2 BK108; obtain ⟨⟨_, _⟩, _, _⟩ := z2 BK109))
   go_ret
   exact ⟨oE, oB⟩
 ·rw [if_neg c3] at H
  have c3b0 : (a0_0.toList == a1_0.toList) = false := beq_eq_false_iff_ne.mpr c3
  have c3b1 : (a0_0.toList != a1_0.toList) = true := bne_iff_ne.mpr c3
  obtain rfl := Option.some.inj H
  go_enter Try.func130, Try.ntmps130
  go_wp2_with (first | ((with_reducible refine gate_dst (N := 2) rfl ?_); refine bx_ 2 #[.string a0_0, .string a0_1] 85 ?_; intro gb108 hg w15 hbox hb; have BK108 := Aside0.mk (hbox); have GW108 := gs_ hg; have GE108 := gs_ hg; replace HB := Aside0.mk (below_step oB hb); clear hb hbox hg) | ((with_reducible refine gate_dst (N := 3) rfl ?_); refine bx_ 3 #[.string a1_0, .string a1_1] 85 ?_; intro gb109 hg w16 hbox hb; have BK109 := Aside0.mk (hbox); have GW109 := gs_ hg; have GE109 := gs_ hg; have NB108_109 := nl_ hg BK108; have NB109_108 := nr_ hg BK108; replace BK108 := kb_ BK108 hb; replace HB := Aside0.mk (below_step oB hb); clear hb hbox hg; have hnb17 := NB108_109.out; have hnc17 := NB109_108.out; obtain ⟨⟨_, _⟩, _, _⟩ := z2 BK108; obtain ⟨⟨_, _⟩, _, _⟩ := z2 BK109))
  go_ret
  exact ⟨oE, oB⟩

/-! ### laws_eqAttrS: function 84 -/
def laws_eqAttrS.l0 : Nat → List (S85) → List (S85) → Int → Option (Bool)
 | 0, _, _, _ => none
 | k + 1, x0, x1, x5 => if x5 < (x0.length : Int) then (if 0 ≤ x5 then (if x5 < (x1.length : Int) then ((laws_eqAttr.f ((rd_T85 x0 x5).f0) ((rd_T85 x0 x5).f1) ((rd_T85 x1 x5).f0) ((rd_T85 x1 x5).f1)).bind fun t112 => (if t112 = true then (laws_eqAttrS.l0 k x0 x1 (wrap64 (x5 + 1))) else (some false))) else (none)) else (none)) else (some true)
def laws_eqAttrS.f (k : Nat) (l0 : List (S85)) (l1 : List (S85)) : Option (Bool) := if (l0.length : Int) = (l1.length : Int) then (laws_eqAttrS.l0 k l0 l1 0) else (some false)
def laws_eqAttrS.T6 : Bool × List (List Nat × List Nat) := (true, [([], []), ([], []), ([0, 1], [0, 1]), ([2], [2]), ([], []), ([], []), ([4, 5], [4, 5]), ([6], [6]), ([3, 7], [3, 7]), ([8], [8])])
def laws_eqAttrS.B6 : List Nat := [0, 0, 3, 7, 0, 0, 48, 112, 255, 511]
theorem laws_eqAttrS.tab6 : rtab .any (opsOf Try.f84 6) = laws_eqAttrS.T6 := by kernel_rfl
theorem laws_eqAttrS.bits6 : waitsOk laws_eqAttrS.T6.2 laws_eqAttrS.B6 = true := by kernel_rfl
set_option maxHeartbeats 8000000 in
set_option maxRecDepth 100000 in
theorem laws_eqAttrS.calls (k : Nat) (A0 : Option Addr) (c0 : Nat) (l0 : List (S85)) (A1 : Option Addr) (c1 : Nat) (l1 : List (S85)) (r : Bool) (w : World) (hr0 : Kd.C k85 w A0 l0.length l0) (hc0 : l0.length ≤ c0) (hr1 : Kd.C k85 w A1 l1.length l1) (hc1 : l1.length ≤ c1) (h : laws_eqAttrS.f k l0 l1 = some r) :
  Calls Try.prog 84 #[.slice A0 l0.length c0, .slice A1 l1.length c1] w fun e w' => e = .returned (.bool r) ∧ Below w.heap.size w w' := by
 have hu85 := Try.underlying85
 have HR0 := Aside0.mk hr0
 have HC0 := Aside0.mk hc0
 clear hr0 hc0
 have HR1 := Aside0.mk hr1
 have HC1 := Aside0.mk hc1
 clear hr1 hc1
 have HB := Aside0.mk (Below.refl w.heap.size w)
 unfold laws_eqAttrS.f at h
 have H := h
 clear h
 by_cases c3 : (l0.length : Int) = (l1.length : Int)
 ·rw [if_pos c3] at H
  have c3b0 : ((l0.length : Int) == (l1.length : Int)) = true := beq_iff_eq.mpr c3
  have c3b1 : ((l0.length : Int) != (l1.length : Int)) = false := bne_eq_false_iff_eq.mpr c3
  have c3b2 : (l0.length == l1.length) = true := by first | simpa using c3 | (simp at c3 ⊢; omega)
  clear c3
  have H' := Aside0.mk H
  clear H
  go_enter Try.func84, Try.ntmps84
  go_wp2
  go_loopg [5] k (fun kq v5 w' => ∃ (x5_1 : Int), v5 = .int .i64 x5_1 ∧ Aside0 (laws_eqAttrS.l0 kq l0 l1 x5_1 = some r) ∧ Aside0 (kq ≤ k) ∧ Aside0 (Below w.heap.size w w'))
  case atStart => exact ⟨(0), oS, H', ⟨Nat.le_refl _⟩, ⟨oB⟩⟩
  case round =>
   clear H'
   try clear c1
   try clear c3
   obtain ⟨x5_1, rfl, HA, HK1, HB⟩ := hrel
   cases gk with
   | zero => exact absurd HA.out (by simp [laws_eqAttrS.l0])
   | succ k1 =>
    have H := HA.out
    clear HA
    simp only [laws_eqAttrS.l0] at H
    replace H := itD H
    rcases H with ⟨c4b0, H⟩ | ⟨c4b0, H⟩
    ·replace H := itD H
     rcases H with ⟨c5b0, H⟩ | ⟨c5b0, H⟩
     ·replace H := itD H
      rcases H with ⟨c6b0, H⟩ | ⟨c6b0, H⟩
      ·replace H := bA H
       obtain ⟨t112, A7, H⟩ := H
       try dsimp only at H
       replace H := itB H
       rcases H with ⟨rfl, H⟩ | ⟨rfl, H⟩
       ·have H' := Aside0.mk H
        clear H
        try go_wp2
        replace HB := Aside0.mk (below_drew1 HB.out)
        have p110 : (0 ≤ (x5_1 : Int)) = True := oT
        have q110 : (x5_1 < (l0.length : Int)) = True := oT
        obtain ⟨ad110, e110, hx110_0, hx110_1⟩ := at_T85 HR0.out x5_1 oa oa
        have hw110_1 := hx110_1
        have hw110_0 := hx110_0
        cases e110
        replace hx110_0 := cB HB hx110_0
        replace hx110_1 := cB HB hx110_1
        have p111 : (0 ≤ (x5_1 : Int)) = True := oT
        have q111 : (x5_1 < (l1.length : Int)) = True := oT
        obtain ⟨ad111, e111, hx111_0, hx111_1⟩ := at_T85 HR1.out x5_1 oa oa
        have hw111_1 := hx111_1
        have hw111_0 := hx111_0
        cases e111
        replace hx111_0 := cB HB hx111_0
        replace hx111_1 := cB HB hx111_1
        refine st_ 10 (fun w' => w'.cell? (ad110.add ((x5_1).toNat * 2)) = some (.string ((rd_T85 l0 x5_1).f0)) ∧ w'.cell? ⟨(ad110.add ((x5_1).toNat * 2)).block, (ad110.add ((x5_1).toNat * 2)).off + 1, none⟩ = some (.string ((rd_T85 l0 x5_1).f1)) ∧ w'.cell? (ad111.add ((x5_1).toNat * 2)) = some (.string ((rd_T85 l1 x5_1).f0)) ∧ w'.cell? ⟨(ad111.add ((x5_1).toNat * 2)).block, (ad111.add ((x5_1).toNat * 2)).off + 1, none⟩ = some (.string ((rd_T85 l1 x5_1).f1))) laws_eqAttrS.tab6 laws_eqAttrS.bits6 oH (fun hHeld HT_ HW_ => ?_)
        generalize wr.drew = w9 at HB hx110_0 hx110_1 hx111_0 hx111_1 hHeld ⊢
        refine pu_ 0 17 HT_ ?_
        refine pu_ 1 18 HT_ ?_
        refine pu_ 2 19 HT_ ?_
        refine pu_ 4 21 HT_ ?_
        refine pu_ 5 22 HT_ ?_
        refine pu_ 6 23 HT_ ?_
        refine ta_ 3 20 HT_ HW_ hHeld ?_
        refine ta_ 7 24 HT_ HW_ hHeld ?_
        refine on_ 8 25 HT_ (fun K hK => ?_)
        refine gr_ 25 Try.func130 (laws_eqAttr.calls ((rd_T85 l0 x5_1).f0) ((rd_T85 l0 x5_1).f1) ((rd_T85 l1 x5_1).f0) ((rd_T85 l1 x5_1).f1) true _ A7.out) ?_
        rintro e w10 ⟨rfl, hb⟩
        refine ⟨_, rfl, ?_⟩
        replace HB := Aside0.mk (below_step oB hb)
        refine hk_ hK 25 oH (fun hHeld => ?_)
        clear hK K
        refine pu_ 9 26 HT_ ?_
        refine dn_ HT_ ?_
        try go_wp2
        go_roundg k1
        case measure => have := HK1.out; omega
        case rel => exact ⟨(wrap64 (x5_1 + 1)), oS, H', ⟨by have := HK1.out; omega⟩, ⟨oB⟩⟩
       ·obtain rfl := Option.some.inj H
        try go_wp2
        replace HB := Aside0.mk (below_drew1 HB.out)
        have p110 : (0 ≤ (x5_1 : Int)) = True := oT
        have q110 : (x5_1 < (l0.length : Int)) = True := oT
        obtain ⟨ad110, e110, hx110_0, hx110_1⟩ := at_T85 HR0.out x5_1 oa oa
        have hw110_1 := hx110_1
        have hw110_0 := hx110_0
        cases e110
        replace hx110_0 := cB HB hx110_0
        replace hx110_1 := cB HB hx110_1
        have p111 : (0 ≤ (x5_1 : Int)) = True := oT
        have q111 : (x5_1 < (l1.length : Int)) = True := oT
        obtain ⟨ad111, e111, hx111_0, hx111_1⟩ := at_T85 HR1.out x5_1 oa oa
        have hw111_1 := hx111_1
        have hw111_0 := hx111_0
        cases e111
        replace hx111_0 := cB HB hx111_0
        replace hx111_1 := cB HB hx111_1
        refine st_ 10 (fun w' => w'.cell? (ad110.add ((x5_1).toNat * 2)) = some (.string ((rd_T85 l0 x5_1).f0)) ∧ w'.cell? ⟨(ad110.add ((x5_1).toNat * 2)).block, (ad110.add ((x5_1).toNat * 2)).off + 1, none⟩ = some (.string ((rd_T85 l0 x5_1).f1)) ∧ w'.cell? (ad111.add ((x5_1).toNat * 2)) = some (.string ((rd_T85 l1 x5_1).f0)) ∧ w'.cell? ⟨(ad111.add ((x5_1).toNat * 2)).block, (ad111.add ((x5_1).toNat * 2)).off + 1, none⟩ = some (.string ((rd_T85 l1 x5_1).f1))) laws_eqAttrS.tab6 laws_eqAttrS.bits6 oH (fun hHeld HT_ HW_ => ?_)
        generalize wr.drew = w11 at HB hx110_0 hx110_1 hx111_0 hx111_1 hHeld ⊢
        refine pu_ 0 17 HT_ ?_
        refine pu_ 1 18 HT_ ?_
        refine pu_ 2 19 HT_ ?_
        refine pu_ 4 21 HT_ ?_
        refine pu_ 5 22 HT_ ?_
        refine pu_ 6 23 HT_ ?_
        refine ta_ 3 20 HT_ HW_ hHeld ?_
        refine ta_ 7 24 HT_ HW_ hHeld ?_
        refine on_ 8 25 HT_ (fun K hK => ?_)
        refine gr_ 25 Try.func130 (laws_eqAttr.calls ((rd_T85 l0 x5_1).f0) ((rd_T85 l0 x5_1).f1) ((rd_T85 l1 x5_1).f0) ((rd_T85 l1 x5_1).f1) false _ A7.out) ?_
        rintro e w12 ⟨rfl, hb⟩
        refine ⟨_, rfl, ?_⟩
        replace HB := Aside0.mk (below_step oB hb)
        refine hk_ hK 25 oH (fun hHeld => ?_)
        clear hK K
        refine pu_ 9 26 HT_ ?_
        refine dn_ HT_ ?_
        try go_wp2
        go_ret
        exact ⟨oE, oB⟩
      ·cases H
     ·cases H
    ·obtain rfl := Option.some.inj H
     go_wp2
     go_ret
     exact ⟨oE, oB⟩
 ·rw [if_neg c3] at H
  have c3b0 : ((l0.length : Int) == (l1.length : Int)) = false := beq_eq_false_iff_ne.mpr c3
  have c3b1 : ((l0.length : Int) != (l1.length : Int)) = true := bne_iff_ne.mpr c3
  have c3b2 : (l0.length == l1.length) = false := by first | simpa using c3 | (simp at c3 ⊢; omega)
  obtain rfl := Option.some.inj H
  go_enter Try.func84, Try.ntmps84
  go_wp2
  go_ret
  exact ⟨oE, oB⟩

/-! ### laws_eqInode: function 32 -/
def laws_eqInode.f (k : Nat) (a0_0 : Int) (a0_1 : Int) (a0_2 : Int) (l0_3 : List Int) (l0_4 : List (S83)) (l0_5 : List (S85)) (a1_0 : Int) (a1_1 : Int) (a1_2 : Int) (l1_3 : List Int) (l1_4 : List (S83)) (l1_5 : List (S85)) : Option (Bool) := if a0_0 = a1_0 then (if a0_1 = a1_1 then (if a0_2 = a1_2 then ((laws_eqByteS.f k l0_3 l1_3).bind fun t115 => (if t115 = true then ((laws_eqEntS.f k l0_4 l1_4).bind fun t116 => (if t116 = true then ((laws_eqAttrS.f k l0_5 l1_5).bind fun t117 => (if t117 = true then (some true) else (some false))) else (some false))) else (some false))) else (some false)) else (some false)) else (some false)
set_option maxHeartbeats 8000000 in
set_option maxRecDepth 100000 in
theorem laws_eqInode.calls (k : Nat) (a0_0 : Int) (a0_1 : Int) (a0_2 : Int) (A0_3 : Option Addr) (c0_3 : Nat) (l0_3 : List Int) (A0_4 : Option Addr) (c0_4 : Nat) (l0_4 : List (S83)) (A0_5 : Option Addr) (c0_5 : Nat) (l0_5 : List (S85)) (a1_0 : Int) (a1_1 : Int) (a1_2 : Int) (A1_3 : Option Addr) (c1_3 : Nat) (l1_3 : List Int) (A1_4 : Option Addr) (c1_4 : Nat) (l1_4 : List (S83)) (A1_5 : Option Addr) (c1_5 : Nat) (l1_5 : List (S85)) (r : Bool) (w : World) (hr0_3 : Kd.C (Kd.int .u8) w A0_3 l0_3.length l0_3) (hc0_3 : l0_3.length ≤ c0_3) (hr0_4 : Kd.C k83 w A0_4 l0_4.length l0_4) (hc0_4 : l0_4.length ≤ c0_4) (hr0_5 : Kd.C k85 w A0_5 l0_5.length l0_5) (hc0_5 : l0_5.length ≤ c0_5) (hr1_3 : Kd.C (Kd.int .u8) w A1_3 l1_3.length l1_3) (hc1_3 : l1_3.length ≤ c1_3) (hr1_4 : Kd.C k83 w A1_4 l1_4.length l1_4) (hc1_4 : l1_4.length ≤ c1_4) (hr1_5 : Kd.C k85 w A1_5 l1_5.length l1_5) (hc1_5 : l1_5.length ≤ c1_5) (h : laws_eqInode.f k a0_0 a0_1 a0_2 l0_3 l0_4 l0_5 a1_0 a1_1 a1_2 l1_3 l1_4 l1_5 = some r) :
  Calls Try.prog 32 #[.agg #[.int .i64 a0_0, .int .i64 a0_1, .int .i64 a0_2, .slice A0_3 l0_3.length c0_3, .slice A0_4 l0_4.length c0_4, .slice A0_5 l0_5.length c0_5], .agg #[.int .i64 a1_0, .int .i64 a1_1, .int .i64 a1_2, .slice A1_3 l1_3.length c1_3, .slice A1_4 l1_4.length c1_4, .slice A1_5 l1_5.length c1_5]] w fun e w' => e = .returned (.bool r) ∧ Below w.heap.size w w' := by
 have hu45 := Try.underlying45
 have HR0_3 := Aside0.mk hr0_3
 have HC0_3 := Aside0.mk hc0_3
 clear hr0_3 hc0_3
 have HR0_4 := Aside0.mk hr0_4
 have HC0_4 := Aside0.mk hc0_4
 clear hr0_4 hc0_4
 have HR0_5 := Aside0.mk hr0_5
 have HC0_5 := Aside0.mk hc0_5
 clear hr0_5 hc0_5
 have HR1_3 := Aside0.mk hr1_3
 have HC1_3 := Aside0.mk hc1_3
 clear hr1_3 hc1_3
 have HR1_4 := Aside0.mk hr1_4
 have HC1_4 := Aside0.mk hc1_4
 clear hr1_4 hc1_4
 have HR1_5 := Aside0.mk hr1_5
 have HC1_5 := Aside0.mk hc1_5
 clear hr1_5 hc1_5
 have HB := Aside0.mk (Below.refl w.heap.size w)
 unfold laws_eqInode.f at h
 have H := h
 clear h
 by_cases c3 : a0_0 = a1_0
 ·rw [if_pos c3] at H
  have c3b0 : (a0_0 == a1_0) = true := beq_iff_eq.mpr c3
  have c3b1 : (a0_0 != a1_0) = false := bne_eq_false_iff_eq.mpr c3
  clear c3
  by_cases c4 : a0_1 = a1_1
  ·rw [if_pos c4] at H
   have c4b0 : (a0_1 == a1_1) = true := beq_iff_eq.mpr c4
   have c4b1 : (a0_1 != a1_1) = false := bne_eq_false_iff_eq.mpr c4
   clear c4
   by_cases c5 : a0_2 = a1_2
   ·rw [if_pos c5] at H
    have c5b0 : (a0_2 == a1_2) = true := beq_iff_eq.mpr c5
    have c5b1 : (a0_2 != a1_2) = false := bne_eq_false_iff_eq.mpr c5
    clear c5
    replace H := bA H
    obtain ⟨t115, A6, H⟩ := H
    try dsimp only at H
    replace H := itB H
    rcases H with ⟨rfl, H⟩ | ⟨rfl, H⟩
    ·replace H := bA H
     obtain ⟨t116, A8, H⟩ := H
     try dsimp only at H
     replace H := itB H
     rcases H with ⟨rfl, H⟩ | ⟨rfl, H⟩
     ·replace H := bA H
      obtain ⟨t117, A10, H⟩ := H
      try dsimp only at H
      replace H := itB H
      rcases H with ⟨rfl, H⟩ | ⟨rfl, H⟩
      ·obtain rfl := Option.some.inj H
       go_enter Try.func32, Try.ntmps32
       go_wp2_with (first | ((with_reducible refine gate_dst (N := 2) rfl ?_); refine bx_ 2 #[.int .i64 a0_0, .int .i64 a0_1, .int .i64 a0_2, .slice A0_3 l0_3.length c0_3, .slice A0_4 l0_4.length c0_4, .slice A0_5 l0_5.length c0_5] 45 ?_; intro gb113 hg w12 hbox hb; have BK113 := Aside0.mk (hbox); have GW113 := gs_ hg; have GE113 := gs_ hg; replace HB := Aside0.mk (below_step oB hb); clear hb hbox hg) | ((with_reducible refine gate_dst (N := 3) rfl ?_); refine bx_ 3 #[.int .i64 a1_0, .int .i64 a1_1, .int .i64 a1_2, .slice A1_3 l1_3.length c1_3, .slice A1_4 l1_4.length c1_4, .slice A1_5 l1_5.length c1_5] 45 ?_; intro gb114 hg w13 hbox hb; have BK114 := Aside0.mk (hbox); have GW114 := gs_ hg; have GE114 := gs_ hg; have NB113_114 := nl_ hg BK113; have NB114_113 := nr_ hg BK113; replace BK113 := kb_ BK113 hb; replace HB := Aside0.mk (below_step oB hb); clear hb hbox hg; have hnb14 := NB113_114.out; have hnc14 := NB114_113.out; obtain ⟨⟨_, _, _, _, _, _⟩, _, _, _, _, _, _⟩ := z6 BK113; obtain ⟨⟨_, _, _, _, _, _⟩, _, _, _, _, _, _⟩ := z6 BK114) | ((with_reducible refine gate_callee (f := 47) rfl ?_); refine gl_ 24 Try.func47 (laws_eqByteS.calls k _ _ l0_3 _ _ l1_3 true _ (kC HR0_3) HC0_3.out (kC HR1_3) HC1_3.out A6.out) ?_; rintro e w' ⟨rfl, ⟨nd, rfl⟩⟩; refine ⟨_, rfl, ?_⟩) | ((with_reducible refine gate_callee (f := 83) rfl ?_); refine gl_ 30 Try.func83 (laws_eqEntS.calls k _ _ l0_4 _ _ l1_4 true _ (kC HR0_4) HC0_4.out (kC HR1_4) HC1_4.out A8.out) ?_; rintro e w17 ⟨rfl, hb⟩; refine ⟨_, rfl, ?_⟩; replace BK113 := kb_ BK113 hb; replace BK114 := kb_ BK114 hb; replace HB := Aside0.mk (below_step oB hb); obtain ⟨⟨_, _, _, _, _, _⟩, _, _, _, _, _, _⟩ := z6 BK113; obtain ⟨⟨_, _, _, _, _, _⟩, _, _, _, _, _, _⟩ := z6 BK114) | ((with_reducible refine gate_callee (f := 84) rfl ?_); refine gl_ 36 Try.func84 (laws_eqAttrS.calls k _ _ l0_5 _ _ l1_5 true _ (kC HR0_5) HC0_5.out (kC HR1_5) HC1_5.out A10.out) ?_; rintro e w20 ⟨rfl, hb⟩; refine ⟨_, rfl, ?_⟩; replace BK113 := kb_ BK113 hb; replace BK114 := kb_ BK114 hb; replace HB := Aside0.mk (below_step oB hb)))
       go_ret
       exact ⟨oE, oB⟩
      ·obtain rfl := Option.some.inj H
       go_enter Try.func32, Try.ntmps32
       go_wp2_with (first | ((with_reducible refine gate_dst (N := 2) rfl ?_); refine bx_ 2 #[.int .i64 a0_0, .int .i64 a0_1, .int .i64 a0_2, .slice A0_3 l0_3.length c0_3, .slice A0_4 l0_4.length c0_4, .slice A0_5 l0_5.length c0_5] 45 ?_; intro gb113 hg w21 hbox hb; have BK113 := Aside0.mk (hbox); have GW113 := gs_ hg; have GE113 := gs_ hg; replace HB := Aside0.mk (below_step oB hb); clear hb hbox hg) | ((with_reducible refine gate_dst (N := 3) rfl ?_); refine bx_ 3 #[.int .i64 a1_0, .int .i64 a1_1, .int .i64 a1_2, .slice A1_3 l1_3.length c1_3, .slice A1_4 l1_4.length c1_4, .slice A1_5 l1_5.length c1_5] 45 ?_; intro gb114 hg w22 hbox hb; have BK114 := Aside0.mk (hbox); have GW114 := gs_ hg; have GE114 := gs_ hg; have NB113_114 := nl_ hg BK113; have NB114_113 := nr_ hg BK113; replace BK113 := kb_ BK113 hb; replace HB := Aside0.mk (below_step oB hb); clear hb hbox hg; have hnb23 := NB113_114.out; have hnc23 := NB114_113.out; obtain ⟨⟨_, _, _, _, _, _⟩, _, _, _, _, _, _⟩ := z6 BK113; obtain ⟨⟨_, _, _, _, _, _⟩, _, _, _, _, _, _⟩ := z6 BK114) | ((with_reducible refine gate_callee (f := 47) rfl ?_); refine gl_ 24 Try.func47 (laws_eqByteS.calls k _ _ l0_3 _ _ l1_3 true _ (kC HR0_3) HC0_3.out (kC HR1_3) HC1_3.out A6.out) ?_; rintro e w' ⟨rfl, ⟨nd, rfl⟩⟩; refine ⟨_, rfl, ?_⟩) | ((with_reducible refine gate_callee (f := 83) rfl ?_); refine gl_ 30 Try.func83 (laws_eqEntS.calls k _ _ l0_4 _ _ l1_4 true _ (kC HR0_4) HC0_4.out (kC HR1_4) HC1_4.out A8.out) ?_; rintro e w26 ⟨rfl, hb⟩; refine ⟨_, rfl, ?_⟩; replace BK113 := kb_ BK113 hb; replace BK114 := kb_ BK114 hb; replace HB := Aside0.mk (below_step oB hb); obtain ⟨⟨_, _, _, _, _, _⟩, _, _, _, _, _, _⟩ := z6 BK113; obtain ⟨⟨_, _, _, _, _, _⟩, _, _, _, _, _, _⟩ := z6 BK114) | ((with_reducible refine gate_callee (f := 84) rfl ?_); refine gl_ 36 Try.func84 (laws_eqAttrS.calls k _ _ l0_5 _ _ l1_5 false _ (kC HR0_5) HC0_5.out (kC HR1_5) HC1_5.out A10.out) ?_; rintro e w29 ⟨rfl, hb⟩; refine ⟨_, rfl, ?_⟩; replace BK113 := kb_ BK113 hb; replace BK114 := kb_ BK114 hb; replace HB := Aside0.mk (below_step oB hb)))
       go_ret
       exact ⟨oE, oB⟩
     ·obtain rfl := Option.some.inj H
      go_enter Try.func32, Try.ntmps32
      go_wp2_with (first | ((with_reducible refine gate_dst (N := 2) rfl ?_); refine bx_ 2 #[.int .i64 a0_0, .int .i64 a0_1, .int .i64 a0_2, .slice A0_3 l0_3.length c0_3, .slice A0_4 l0_4.length c0_4, .slice A0_5 l0_5.length c0_5] 45 ?_; intro gb113 hg w30 hbox hb; have BK113 := Aside0.mk (hbox); have GW113 := gs_ hg; have GE113 := gs_ hg; replace HB := Aside0.mk (below_step oB hb); clear hb hbox hg) | ((with_reducible refine gate_dst (N := 3) rfl ?_); refine bx_ 3 #[.int .i64 a1_0, .int .i64 a1_1, .int .i64 a1_2, .slice A1_3 l1_3.length c1_3, .slice A1_4 l1_4.length c1_4, .slice A1_5 l1_5.length c1_5] 45 ?_; intro gb114 hg w31 hbox hb; have BK114 := Aside0.mk (hbox); have GW114 := gs_ hg; have GE114 := gs_ hg; have NB113_114 := nl_ hg BK113; have NB114_113 := nr_ hg BK113; replace BK113 := kb_ BK113 hb; replace HB := Aside0.mk (below_step oB hb); clear hb hbox hg; have hnb32 := NB113_114.out; have hnc32 := NB114_113.out; obtain ⟨⟨_, _, _, _, _, _⟩, _, _, _, _, _, _⟩ := z6 BK113; obtain ⟨⟨_, _, _, _, _, _⟩, _, _, _, _, _, _⟩ := z6 BK114) | ((with_reducible refine gate_callee (f := 47) rfl ?_); refine gl_ 24 Try.func47 (laws_eqByteS.calls k _ _ l0_3 _ _ l1_3 true _ (kC HR0_3) HC0_3.out (kC HR1_3) HC1_3.out A6.out) ?_; rintro e w' ⟨rfl, ⟨nd, rfl⟩⟩; refine ⟨_, rfl, ?_⟩) | ((with_reducible refine gate_callee (f := 83) rfl ?_); refine gl_ 30 Try.func83 (laws_eqEntS.calls k _ _ l0_4 _ _ l1_4 false _ (kC HR0_4) HC0_4.out (kC HR1_4) HC1_4.out A8.out) ?_; rintro e w35 ⟨rfl, hb⟩; refine ⟨_, rfl, ?_⟩; replace BK113 := kb_ BK113 hb; replace BK114 := kb_ BK114 hb; replace HB := Aside0.mk (below_step oB hb)))
      go_ret
      exact ⟨oE, oB⟩
    ·obtain rfl := Option.some.inj H
     go_enter Try.func32, Try.ntmps32
     go_wp2_with (first | ((with_reducible refine gate_dst (N := 2) rfl ?_); refine bx_ 2 #[.int .i64 a0_0, .int .i64 a0_1, .int .i64 a0_2, .slice A0_3 l0_3.length c0_3, .slice A0_4 l0_4.length c0_4, .slice A0_5 l0_5.length c0_5] 45 ?_; intro gb113 hg w36 hbox hb; have BK113 := Aside0.mk (hbox); have GW113 := gs_ hg; have GE113 := gs_ hg; replace HB := Aside0.mk (below_step oB hb); clear hb hbox hg) | ((with_reducible refine gate_dst (N := 3) rfl ?_); refine bx_ 3 #[.int .i64 a1_0, .int .i64 a1_1, .int .i64 a1_2, .slice A1_3 l1_3.length c1_3, .slice A1_4 l1_4.length c1_4, .slice A1_5 l1_5.length c1_5] 45 ?_; intro gb114 hg w37 hbox hb; have BK114 := Aside0.mk (hbox); have GW114 := gs_ hg; have GE114 := gs_ hg; have NB113_114 := nl_ hg BK113; have NB114_113 := nr_ hg BK113; replace BK113 := kb_ BK113 hb; replace HB := Aside0.mk (below_step oB hb); clear hb hbox hg; have hnb38 := NB113_114.out; have hnc38 := NB114_113.out; obtain ⟨⟨_, _, _, _, _, _⟩, _, _, _, _, _, _⟩ := z6 BK113; obtain ⟨⟨_, _, _, _, _, _⟩, _, _, _, _, _, _⟩ := z6 BK114) | ((with_reducible refine gate_callee (f := 47) rfl ?_); refine gl_ 24 Try.func47 (laws_eqByteS.calls k _ _ l0_3 _ _ l1_3 false _ (kC HR0_3) HC0_3.out (kC HR1_3) HC1_3.out A6.out) ?_; rintro e w' ⟨rfl, ⟨nd, rfl⟩⟩; refine ⟨_, rfl, ?_⟩))
     go_ret
     exact ⟨oE, oB⟩
   ·rw [if_neg c5] at H
    have c5b0 : (a0_2 == a1_2) = false := beq_eq_false_iff_ne.mpr c5
    have c5b1 : (a0_2 != a1_2) = true := bne_iff_ne.mpr c5
    obtain rfl := Option.some.inj H
    go_enter Try.func32, Try.ntmps32
    go_wp2_with (first | ((with_reducible refine gate_dst (N := 2) rfl ?_); refine bx_ 2 #[.int .i64 a0_0, .int .i64 a0_1, .int .i64 a0_2, .slice A0_3 l0_3.length c0_3, .slice A0_4 l0_4.length c0_4, .slice A0_5 l0_5.length c0_5] 45 ?_; intro gb113 hg w41 hbox hb; have BK113 := Aside0.mk (hbox); have GW113 := gs_ hg; have GE113 := gs_ hg; replace HB := Aside0.mk (below_step oB hb); clear hb hbox hg) | ((with_reducible refine gate_dst (N := 3) rfl ?_); refine bx_ 3 #[.int .i64 a1_0, .int .i64 a1_1, .int .i64 a1_2, .slice A1_3 l1_3.length c1_3, .slice A1_4 l1_4.length c1_4, .slice A1_5 l1_5.length c1_5] 45 ?_; intro gb114 hg w42 hbox hb; have BK114 := Aside0.mk (hbox); have GW114 := gs_ hg; have GE114 := gs_ hg; have NB113_114 := nl_ hg BK113; have NB114_113 := nr_ hg BK113; replace BK113 := kb_ BK113 hb; replace HB := Aside0.mk (below_step oB hb); clear hb hbox hg; have hnb43 := NB113_114.out; have hnc43 := NB114_113.out; obtain ⟨⟨_, _, _, _, _, _⟩, _, _, _, _, _, _⟩ := z6 BK113; obtain ⟨⟨_, _, _, _, _, _⟩, _, _, _, _, _, _⟩ := z6 BK114))
    go_ret
    exact ⟨oE, oB⟩
  ·rw [if_neg c4] at H
   have c4b0 : (a0_1 == a1_1) = false := beq_eq_false_iff_ne.mpr c4
   have c4b1 : (a0_1 != a1_1) = true := bne_iff_ne.mpr c4
   obtain rfl := Option.some.inj H
   go_enter Try.func32, Try.ntmps32
   go_wp2_with (first | ((with_reducible refine gate_dst (N := 2) rfl ?_); refine bx_ 2 #[.int .i64 a0_0, .int .i64 a0_1, .int .i64 a0_2, .slice A0_3 l0_3.length c0_3, .slice A0_4 l0_4.length c0_4, .slice A0_5 l0_5.length c0_5] 45 ?_; intro gb113 hg w46 hbox hb; have BK113 := Aside0.mk (hbox); have GW113 := gs_ hg; have GE113 := gs_ hg; replace HB := Aside0.mk (below_step oB hb); clear hb hbox hg) | ((with_reducible refine gate_dst (N := 3) rfl ?_); refine bx_ 3 #[.int .i64 a1_0, .int .i64 a1_1, .int .i64 a1_2, .slice A1_3 l1_3.length c1_3, .slice A1_4 l1_4.length c1_4, .slice A1_5 l1_5.length c1_5] 45 ?_; intro gb114 hg w47 hbox hb; have BK114 := Aside0.mk (hbox); have GW114 := gs_ hg; have GE114 := gs_ hg; have NB113_114 := nl_ hg BK113; have NB114_113 := nr_ hg BK113; replace BK113 := kb_ BK113 hb; replace HB := Aside0.mk (below_step oB hb); clear hb hbox hg; have hnb48 := NB113_114.out; have hnc48 := NB114_113.out; obtain ⟨⟨_, _, _, _, _, _⟩, _, _, _, _, _, _⟩ := z6 BK113; obtain ⟨⟨_, _, _, _, _, _⟩, _, _, _, _, _, _⟩ := z6 BK114))
   go_ret
   exact ⟨oE, oB⟩
 ·rw [if_neg c3] at H
  have c3b0 : (a0_0 == a1_0) = false := beq_eq_false_iff_ne.mpr c3
  have c3b1 : (a0_0 != a1_0) = true := bne_iff_ne.mpr c3
  obtain rfl := Option.some.inj H
  go_enter Try.func32, Try.ntmps32
  go_wp2_with (first | ((with_reducible refine gate_dst (N := 2) rfl ?_); refine bx_ 2 #[.int .i64 a0_0, .int .i64 a0_1, .int .i64 a0_2, .slice A0_3 l0_3.length c0_3, .slice A0_4 l0_4.length c0_4, .slice A0_5 l0_5.length c0_5] 45 ?_; intro gb113 hg w51 hbox hb; have BK113 := Aside0.mk (hbox); have GW113 := gs_ hg; have GE113 := gs_ hg; replace HB := Aside0.mk (below_step oB hb); clear hb hbox hg) | ((with_reducible refine gate_dst (N := 3) rfl ?_); refine bx_ 3 #[.int .i64 a1_0, .int .i64 a1_1, .int .i64 a1_2, .slice A1_3 l1_3.length c1_3, .slice A1_4 l1_4.length c1_4, .slice A1_5 l1_5.length c1_5] 45 ?_; intro gb114 hg w52 hbox hb; have BK114 := Aside0.mk (hbox); have GW114 := gs_ hg; have GE114 := gs_ hg; have NB113_114 := nl_ hg BK113; have NB114_113 := nr_ hg BK113; replace BK113 := kb_ BK113 hb; replace HB := Aside0.mk (below_step oB hb); clear hb hbox hg; have hnb53 := NB113_114.out; have hnc53 := NB114_113.out; obtain ⟨⟨_, _, _, _, _, _⟩, _, _, _, _, _, _⟩ := z6 BK113; obtain ⟨⟨_, _, _, _, _, _⟩, _, _, _, _, _, _⟩ := z6 BK114))
  go_ret
  exact ⟨oE, oB⟩

/-! ### laws_eqInodeS: function 70 -/
def laws_eqInodeS.l0 : Nat → List (S45) → List (S45) → Int → Option (Bool)
 | 0, _, _, _ => none
 | k + 1, x0, x1, x5 => if x5 < (x0.length : Int) then (if 0 ≤ x5 then (if x5 < (x1.length : Int) then ((laws_eqInode.f k ((rd_T45 x0 x5).f0) ((rd_T45 x0 x5).f1) ((rd_T45 x0 x5).f2) ((rd_T45 x0 x5).f3) ((rd_T45 x0 x5).f4) ((rd_T45 x0 x5).f5) ((rd_T45 x1 x5).f0) ((rd_T45 x1 x5).f1) ((rd_T45 x1 x5).f2) ((rd_T45 x1 x5).f3) ((rd_T45 x1 x5).f4) ((rd_T45 x1 x5).f5)).bind fun t120 => (if t120 = true then (laws_eqInodeS.l0 k x0 x1 (wrap64 (x5 + 1))) else (some false))) else (none)) else (none)) else (some true)
def laws_eqInodeS.f (k : Nat) (l0 : List (S45)) (l1 : List (S45)) : Option (Bool) := if (l0.length : Int) = (l1.length : Int) then (laws_eqInodeS.l0 k l0 l1 0) else (some false)
def laws_eqInodeS.T6 : Bool × List (List Nat × List Nat) := (true, [([], []), ([], []), ([0, 1], [0, 1]), ([2], [2]), ([], []), ([], []), ([4, 5], [4, 5]), ([6], [6]), ([3, 7], [3, 7]), ([8], [8])])
def laws_eqInodeS.B6 : List Nat := [0, 0, 3, 7, 0, 0, 48, 112, 255, 511]
theorem laws_eqInodeS.tab6 : rtab .any (opsOf Try.f70 6) = laws_eqInodeS.T6 := by kernel_rfl
theorem laws_eqInodeS.bits6 : waitsOk laws_eqInodeS.T6.2 laws_eqInodeS.B6 = true := by kernel_rfl
set_option maxHeartbeats 8000000 in
set_option maxRecDepth 100000 in
theorem laws_eqInodeS.calls (k : Nat) (A0 : Option Addr) (c0 : Nat) (l0 : List (S45)) (A1 : Option Addr) (c1 : Nat) (l1 : List (S45)) (r : Bool) (w : World) (hr0 : Kd.C k45 w A0 l0.length l0) (hc0 : l0.length ≤ c0) (hr1 : Kd.C k45 w A1 l1.length l1) (hc1 : l1.length ≤ c1) (h : laws_eqInodeS.f k l0 l1 = some r) :
  Calls Try.prog 70 #[.slice A0 l0.length c0, .slice A1 l1.length c1] w fun e w' => e = .returned (.bool r) ∧ Below w.heap.size w w' := by
 have hu45 := Try.underlying45
 have HR0 := Aside0.mk hr0
 have HC0 := Aside0.mk hc0
 clear hr0 hc0
 have HR1 := Aside0.mk hr1
 have HC1 := Aside0.mk hc1
 clear hr1 hc1
 have HB := Aside0.mk (Below.refl w.heap.size w)
 unfold laws_eqInodeS.f at h
 have H := h
 clear h
 by_cases c3 : (l0.length : Int) = (l1.length : Int)
 ·rw [if_pos c3] at H
  have c3b0 : ((l0.length : Int) == (l1.length : Int)) = true := beq_iff_eq.mpr c3
  have c3b1 : ((l0.length : Int) != (l1.length : Int)) = false := bne_eq_false_iff_eq.mpr c3
  have c3b2 : (l0.length == l1.length) = true := by first | simpa using c3 | (simp at c3 ⊢; omega)
  clear c3
  have H' := Aside0.mk H
  clear H
  go_enter Try.func70, Try.ntmps70
  go_wp2
  go_loopg [5] k (fun kq v5 w' => ∃ (x5_1 : Int), v5 = .int .i64 x5_1 ∧ Aside0 (laws_eqInodeS.l0 kq l0 l1 x5_1 = some r) ∧ Aside0 (kq ≤ k) ∧ Aside0 (Below w.heap.size w w'))
  case atStart => exact ⟨(0), oS, H', ⟨Nat.le_refl _⟩, ⟨oB⟩⟩
  case round =>
   clear H'
   try clear c1
   try clear c3
   obtain ⟨x5_1, rfl, HA, HK1, HB⟩ := hrel
   cases gk with
   | zero => exact absurd HA.out (by simp [laws_eqInodeS.l0])
   | succ k1 =>
    have H := HA.out
    clear HA
    simp only [laws_eqInodeS.l0] at H
    replace H := itD H
    rcases H with ⟨c4b0, H⟩ | ⟨c4b0, H⟩
    ·replace H := itD H
     rcases H with ⟨c5b0, H⟩ | ⟨c5b0, H⟩
     ·replace H := itD H
      rcases H with ⟨c6b0, H⟩ | ⟨c6b0, H⟩
      ·replace H := bA H
       obtain ⟨t120, A7, H⟩ := H
       try dsimp only at H
       replace H := itB H
       rcases H with ⟨rfl, H⟩ | ⟨rfl, H⟩
       ·have H' := Aside0.mk H
        clear H
        try go_wp2
        replace HB := Aside0.mk (below_drew1 HB.out)
        have p118 : (0 ≤ (x5_1 : Int)) = True := oT
        have q118 : (x5_1 < (l0.length : Int)) = True := oT
        obtain ⟨ad118, A118_3, c118_3, A118_4, c118_4, A118_5, c118_5, e118, hx118_0, hx118_1, hx118_2, hx118_3, hx118_4, hx118_5, hl118_3, hi118_3, hl118_4, hi118_4, hl118_5, hi118_5⟩ := at_T45 HR0.out x5_1 oa oa
        have hw118_5 := hx118_5
        have hw118_4 := hx118_4
        have hw118_3 := hx118_3
        have hw118_2 := hx118_2
        have hw118_1 := hx118_1
        have hw118_0 := hx118_0
        cases e118
        replace hx118_0 := cB HB hx118_0
        replace hx118_1 := cB HB hx118_1
        replace hx118_2 := cB HB hx118_2
        replace hx118_3 := cB HB hx118_3
        replace hx118_4 := cB HB hx118_4
        replace hx118_5 := cB HB hx118_5
        have HR118_3 := Aside0.mk hi118_3
        have HC118_3 := Aside0.mk hl118_3
        clear hi118_3 hl118_3
        have HR118_4 := Aside0.mk hi118_4
        have HC118_4 := Aside0.mk hl118_4
        clear hi118_4 hl118_4
        have HR118_5 := Aside0.mk hi118_5
        have HC118_5 := Aside0.mk hl118_5
        clear hi118_5 hl118_5
        have p119 : (0 ≤ (x5_1 : Int)) = True := oT
        have q119 : (x5_1 < (l1.length : Int)) = True := oT
        obtain ⟨ad119, A119_3, c119_3, A119_4, c119_4, A119_5, c119_5, e119, hx119_0, hx119_1, hx119_2, hx119_3, hx119_4, hx119_5, hl119_3, hi119_3, hl119_4, hi119_4, hl119_5, hi119_5⟩ := at_T45 HR1.out x5_1 oa oa
        have hw119_5 := hx119_5
        have hw119_4 := hx119_4
        have hw119_3 := hx119_3
        have hw119_2 := hx119_2
        have hw119_1 := hx119_1
        have hw119_0 := hx119_0
        cases e119
        replace hx119_0 := cB HB hx119_0
        replace hx119_1 := cB HB hx119_1
        replace hx119_2 := cB HB hx119_2
        replace hx119_3 := cB HB hx119_3
        replace hx119_4 := cB HB hx119_4
        replace hx119_5 := cB HB hx119_5
        have HR119_3 := Aside0.mk hi119_3
        have HC119_3 := Aside0.mk hl119_3
        clear hi119_3 hl119_3
        have HR119_4 := Aside0.mk hi119_4
        have HC119_4 := Aside0.mk hl119_4
        clear hi119_4 hl119_4
        have HR119_5 := Aside0.mk hi119_5
        have HC119_5 := Aside0.mk hl119_5
        clear hi119_5 hl119_5
        refine st_ 10 (fun w' => w'.cell? (ad118.add ((x5_1).toNat * 6)) = some (.int .i64 ((rd_T45 l0 x5_1).f0)) ∧ w'.cell? ⟨(ad118.add ((x5_1).toNat * 6)).block, (ad118.add ((x5_1).toNat * 6)).off + 1, none⟩ = some (.int .i64 ((rd_T45 l0 x5_1).f1)) ∧ w'.cell? ⟨(ad118.add ((x5_1).toNat * 6)).block, (ad118.add ((x5_1).toNat * 6)).off + 2, none⟩ = some (.int .i64 ((rd_T45 l0 x5_1).f2)) ∧ w'.cell? ⟨(ad118.add ((x5_1).toNat * 6)).block, (ad118.add ((x5_1).toNat * 6)).off + 3, none⟩ = some (.slice A118_3 ((rd_T45 l0 x5_1).f3).length c118_3) ∧ w'.cell? ⟨(ad118.add ((x5_1).toNat * 6)).block, (ad118.add ((x5_1).toNat * 6)).off + 4, none⟩ = some (.slice A118_4 ((rd_T45 l0 x5_1).f4).length c118_4) ∧ w'.cell? ⟨(ad118.add ((x5_1).toNat * 6)).block, (ad118.add ((x5_1).toNat * 6)).off + 5, none⟩ = some (.slice A118_5 ((rd_T45 l0 x5_1).f5).length c118_5) ∧ w'.cell? (ad119.add ((x5_1).toNat * 6)) = some (.int .i64 ((rd_T45 l1 x5_1).f0)) ∧ w'.cell? ⟨(ad119.add ((x5_1).toNat * 6)).block, (ad119.add ((x5_1).toNat * 6)).off + 1, none⟩ = some (.int .i64 ((rd_T45 l1 x5_1).f1)) ∧ w'.cell? ⟨(ad119.add ((x5_1).toNat * 6)).block, (ad119.add ((x5_1).toNat * 6)).off + 2, none⟩ = some (.int .i64 ((rd_T45 l1 x5_1).f2)) ∧ w'.cell? ⟨(ad119.add ((x5_1).toNat * 6)).block, (ad119.add ((x5_1).toNat * 6)).off + 3, none⟩ = some (.slice A119_3 ((rd_T45 l1 x5_1).f3).length c119_3) ∧ w'.cell? ⟨(ad119.add ((x5_1).toNat * 6)).block, (ad119.add ((x5_1).toNat * 6)).off + 4, none⟩ = some (.slice A119_4 ((rd_T45 l1 x5_1).f4).length c119_4) ∧ w'.cell? ⟨(ad119.add ((x5_1).toNat * 6)).block, (ad119.add ((x5_1).toNat * 6)).off + 5, none⟩ = some (.slice A119_5 ((rd_T45 l1 x5_1).f5).length c119_5)) laws_eqInodeS.tab6 laws_eqInodeS.bits6 oH (fun hHeld HT_ HW_ => ?_)
        generalize wr.drew = w9 at HB HR118_3 HR118_4 HR118_5 HR119_3 HR119_4 HR119_5 hx118_0 hx118_1 hx118_2 hx118_3 hx118_4 hx118_5 hx119_0 hx119_1 hx119_2 hx119_3 hx119_4 hx119_5 hHeld ⊢
        refine pu_ 0 17 HT_ ?_
        refine pu_ 1 18 HT_ ?_
        refine pu_ 2 19 HT_ ?_
        refine pu_ 4 21 HT_ ?_
        refine pu_ 5 22 HT_ ?_
        refine pu_ 6 23 HT_ ?_
        refine ta_ 3 20 HT_ HW_ hHeld ?_
        refine ta_ 7 24 HT_ HW_ hHeld ?_
        refine on_ 8 25 HT_ (fun K hK => ?_)
        refine gr_ 25 Try.func32 (laws_eqInode.calls k1 ((rd_T45 l0 x5_1).f0) ((rd_T45 l0 x5_1).f1) ((rd_T45 l0 x5_1).f2) _ _ ((rd_T45 l0 x5_1).f3) _ _ ((rd_T45 l0 x5_1).f4) _ _ ((rd_T45 l0 x5_1).f5) ((rd_T45 l1 x5_1).f0) ((rd_T45 l1 x5_1).f1) ((rd_T45 l1 x5_1).f2) _ _ ((rd_T45 l1 x5_1).f3) _ _ ((rd_T45 l1 x5_1).f4) _ _ ((rd_T45 l1 x5_1).f5) true _ (kC HR118_3) HC118_3.out (kC HR118_4) HC118_4.out (kC HR118_5) HC118_5.out (kC HR119_3) HC119_3.out (kC HR119_4) HC119_4.out (kC HR119_5) HC119_5.out A7.out) ?_
        rintro e w10 ⟨rfl, hb⟩
        refine ⟨_, rfl, ?_⟩
        replace HB := Aside0.mk (below_step oB hb)
        refine hk_ hK 25 oH (fun hHeld => ?_)
        clear hK K
        refine pu_ 9 26 HT_ ?_
        refine dn_ HT_ ?_
        try go_wp2
        go_roundg k1
        case measure => have := HK1.out; omega
        case rel => exact ⟨(wrap64 (x5_1 + 1)), oS, H', ⟨by have := HK1.out; omega⟩, ⟨oB⟩⟩
       ·obtain rfl := Option.some.inj H
        try go_wp2
        replace HB := Aside0.mk (below_drew1 HB.out)
        have p118 : (0 ≤ (x5_1 : Int)) = True := oT
        have q118 : (x5_1 < (l0.length : Int)) = True := oT
        obtain ⟨ad118, A118_3, c118_3, A118_4, c118_4, A118_5, c118_5, e118, hx118_0, hx118_1, hx118_2, hx118_3, hx118_4, hx118_5, hl118_3, hi118_3, hl118_4, hi118_4, hl118_5, hi118_5⟩ := at_T45 HR0.out x5_1 oa oa
        have hw118_5 := hx118_5
        have hw118_4 := hx118_4
        have hw118_3 := hx118_3
        have hw118_2 := hx118_2
        have hw118_1 := hx118_1
        have hw118_0 := hx118_0
        cases e118
        replace hx118_0 := cB HB hx118_0
        replace hx118_1 := cB HB hx118_1
        replace hx118_2 := cB HB hx118_2
        replace hx118_3 := cB HB hx118_3
        replace hx118_4 := cB HB hx118_4
        replace hx118_5 := cB HB hx118_5
        have HR118_3 := Aside0.mk hi118_3
        have HC118_3 := Aside0.mk hl118_3
        clear hi118_3 hl118_3
        have HR118_4 := Aside0.mk hi118_4
        have HC118_4 := Aside0.mk hl118_4
        clear hi118_4 hl118_4
        have HR118_5 := Aside0.mk hi118_5
        have HC118_5 := Aside0.mk hl118_5
        clear hi118_5 hl118_5
        have p119 : (0 ≤ (x5_1 : Int)) = True := oT
        have q119 : (x5_1 < (l1.length : Int)) = True := oT
        obtain ⟨ad119, A119_3, c119_3, A119_4, c119_4, A119_5, c119_5, e119, hx119_0, hx119_1, hx119_2, hx119_3, hx119_4, hx119_5, hl119_3, hi119_3, hl119_4, hi119_4, hl119_5, hi119_5⟩ := at_T45 HR1.out x5_1 oa oa
        have hw119_5 := hx119_5
        have hw119_4 := hx119_4
        have hw119_3 := hx119_3
        have hw119_2 := hx119_2
        have hw119_1 := hx119_1
        have hw119_0 := hx119_0
        cases e119
        replace hx119_0 := cB HB hx119_0
        replace hx119_1 := cB HB hx119_1
        replace hx119_2 := cB HB hx119_2
        replace hx119_3 := cB HB hx119_3
        replace hx119_4 := cB HB hx119_4
        replace hx119_5 := cB HB hx119_5
        have HR119_3 := Aside0.mk hi119_3
        have HC119_3 := Aside0.mk hl119_3
        clear hi119_3 hl119_3
        have HR119_4 := Aside0.mk hi119_4
        have HC119_4 := Aside0.mk hl119_4
        clear hi119_4 hl119_4
        have HR119_5 := Aside0.mk hi119_5
        have HC119_5 := Aside0.mk hl119_5
        clear hi119_5 hl119_5
        refine st_ 10 (fun w' => w'.cell? (ad118.add ((x5_1).toNat * 6)) = some (.int .i64 ((rd_T45 l0 x5_1).f0)) ∧ w'.cell? ⟨(ad118.add ((x5_1).toNat * 6)).block, (ad118.add ((x5_1).toNat * 6)).off + 1, none⟩ = some (.int .i64 ((rd_T45 l0 x5_1).f1)) ∧ w'.cell? ⟨(ad118.add ((x5_1).toNat * 6)).block, (ad118.add ((x5_1).toNat * 6)).off + 2, none⟩ = some (.int .i64 ((rd_T45 l0 x5_1).f2)) ∧ w'.cell? ⟨(ad118.add ((x5_1).toNat * 6)).block, (ad118.add ((x5_1).toNat * 6)).off + 3, none⟩ = some (.slice A118_3 ((rd_T45 l0 x5_1).f3).length c118_3) ∧ w'.cell? ⟨(ad118.add ((x5_1).toNat * 6)).block, (ad118.add ((x5_1).toNat * 6)).off + 4, none⟩ = some (.slice A118_4 ((rd_T45 l0 x5_1).f4).length c118_4) ∧ w'.cell? ⟨(ad118.add ((x5_1).toNat * 6)).block, (ad118.add ((x5_1).toNat * 6)).off + 5, none⟩ = some (.slice A118_5 ((rd_T45 l0 x5_1).f5).length c118_5) ∧ w'.cell? (ad119.add ((x5_1).toNat * 6)) = some (.int .i64 ((rd_T45 l1 x5_1).f0)) ∧ w'.cell? ⟨(ad119.add ((x5_1).toNat * 6)).block, (ad119.add ((x5_1).toNat * 6)).off + 1, none⟩ = some (.int .i64 ((rd_T45 l1 x5_1).f1)) ∧ w'.cell? ⟨(ad119.add ((x5_1).toNat * 6)).block, (ad119.add ((x5_1).toNat * 6)).off + 2, none⟩ = some (.int .i64 ((rd_T45 l1 x5_1).f2)) ∧ w'.cell? ⟨(ad119.add ((x5_1).toNat * 6)).block, (ad119.add ((x5_1).toNat * 6)).off + 3, none⟩ = some (.slice A119_3 ((rd_T45 l1 x5_1).f3).length c119_3) ∧ w'.cell? ⟨(ad119.add ((x5_1).toNat * 6)).block, (ad119.add ((x5_1).toNat * 6)).off + 4, none⟩ = some (.slice A119_4 ((rd_T45 l1 x5_1).f4).length c119_4) ∧ w'.cell? ⟨(ad119.add ((x5_1).toNat * 6)).block, (ad119.add ((x5_1).toNat * 6)).off + 5, none⟩ = some (.slice A119_5 ((rd_T45 l1 x5_1).f5).length c119_5)) laws_eqInodeS.tab6 laws_eqInodeS.bits6 oH (fun hHeld HT_ HW_ => ?_)
        generalize wr.drew = w11 at HB HR118_3 HR118_4 HR118_5 HR119_3 HR119_4 HR119_5 hx118_0 hx118_1 hx118_2 hx118_3 hx118_4 hx118_5 hx119_0 hx119_1 hx119_2 hx119_3 hx119_4 hx119_5 hHeld ⊢
        refine pu_ 0 17 HT_ ?_
        refine pu_ 1 18 HT_ ?_
        refine pu_ 2 19 HT_ ?_
        refine pu_ 4 21 HT_ ?_
        refine pu_ 5 22 HT_ ?_
        refine pu_ 6 23 HT_ ?_
        refine ta_ 3 20 HT_ HW_ hHeld ?_
        refine ta_ 7 24 HT_ HW_ hHeld ?_
        refine on_ 8 25 HT_ (fun K hK => ?_)
        refine gr_ 25 Try.func32 (laws_eqInode.calls k1 ((rd_T45 l0 x5_1).f0) ((rd_T45 l0 x5_1).f1) ((rd_T45 l0 x5_1).f2) _ _ ((rd_T45 l0 x5_1).f3) _ _ ((rd_T45 l0 x5_1).f4) _ _ ((rd_T45 l0 x5_1).f5) ((rd_T45 l1 x5_1).f0) ((rd_T45 l1 x5_1).f1) ((rd_T45 l1 x5_1).f2) _ _ ((rd_T45 l1 x5_1).f3) _ _ ((rd_T45 l1 x5_1).f4) _ _ ((rd_T45 l1 x5_1).f5) false _ (kC HR118_3) HC118_3.out (kC HR118_4) HC118_4.out (kC HR118_5) HC118_5.out (kC HR119_3) HC119_3.out (kC HR119_4) HC119_4.out (kC HR119_5) HC119_5.out A7.out) ?_
        rintro e w12 ⟨rfl, hb⟩
        refine ⟨_, rfl, ?_⟩
        replace HB := Aside0.mk (below_step oB hb)
        refine hk_ hK 25 oH (fun hHeld => ?_)
        clear hK K
        refine pu_ 9 26 HT_ ?_
        refine dn_ HT_ ?_
        try go_wp2
        go_ret
        exact ⟨oE, oB⟩
      ·cases H
     ·cases H
    ·obtain rfl := Option.some.inj H
     go_wp2
     go_ret
     exact ⟨oE, oB⟩
 ·rw [if_neg c3] at H
  have c3b0 : ((l0.length : Int) == (l1.length : Int)) = false := beq_eq_false_iff_ne.mpr c3
  have c3b1 : ((l0.length : Int) != (l1.length : Int)) = true := bne_iff_ne.mpr c3
  have c3b2 : (l0.length == l1.length) = false := by first | simpa using c3 | (simp at c3 ⊢; omega)
  obtain rfl := Option.some.inj H
  go_enter Try.func70, Try.ntmps70
  go_wp2
  go_ret
  exact ⟨oE, oB⟩

/-! ### laws_eqTab: function 25 -/
def laws_eqTab.f (k : Nat) (l0_0 : List (S45)) (a0_1 : Int) (l1_0 : List (S45)) (a1_1 : Int) : Option (Bool) := (laws_eqInodeS.f k l0_0 l1_0).bind fun t123 => (if t123 = true then (if a0_1 = a1_1 then (some true) else (some false)) else (some false))
set_option maxHeartbeats 8000000 in
set_option maxRecDepth 100000 in
theorem laws_eqTab.calls (k : Nat) (A0_0 : Option Addr) (c0_0 : Nat) (l0_0 : List (S45)) (a0_1 : Int) (A1_0 : Option Addr) (c1_0 : Nat) (l1_0 : List (S45)) (a1_1 : Int) (r : Bool) (w : World) (hr0_0 : Kd.C k45 w A0_0 l0_0.length l0_0) (hc0_0 : l0_0.length ≤ c0_0) (hr1_0 : Kd.C k45 w A1_0 l1_0.length l1_0) (hc1_0 : l1_0.length ≤ c1_0) (h : laws_eqTab.f k l0_0 a0_1 l1_0 a1_1 = some r) :
  Calls Try.prog 25 #[.agg #[.slice A0_0 l0_0.length c0_0, .int .i64 a0_1], .agg #[.slice A1_0 l1_0.length c1_0, .int .i64 a1_1]] w fun e w' => e = .returned (.bool r) ∧ Below w.heap.size w w' := by
 have hu30 := Try.underlying30
 have HR0_0 := Aside0.mk hr0_0
 have HC0_0 := Aside0.mk hc0_0
 clear hr0_0 hc0_0
 have HR1_0 := Aside0.mk hr1_0
 have HC1_0 := Aside0.mk hc1_0
 clear hr1_0 hc1_0
 have HB := Aside0.mk (Below.refl w.heap.size w)
 unfold laws_eqTab.f at h
 have H := h
 clear h
 replace H := bA H
 obtain ⟨t123, A3, H⟩ := H
 try dsimp only at H
 replace H := itB H
 rcases H with ⟨rfl, H⟩ | ⟨rfl, H⟩
 ·by_cases c5 : a0_1 = a1_1
  ·rw [if_pos c5] at H
   have c5b0 : (a0_1 == a1_1) = true := beq_iff_eq.mpr c5
   have c5b1 : (a0_1 != a1_1) = false := bne_eq_false_iff_eq.mpr c5
   clear c5
   obtain rfl := Option.some.inj H
   go_enter Try.func25, Try.ntmps25
   go_wp2_with (first | ((with_reducible refine gate_dst (N := 2) rfl ?_); refine bx_ 2 #[.slice A0_0 l0_0.length c0_0, .int .i64 a0_1] 30 ?_; intro gb121 hg w6 hbox hb; have BK121 := Aside0.mk (hbox); have GW121 := gs_ hg; have GE121 := gs_ hg; replace HB := Aside0.mk (below_step oB hb); clear hb hbox hg) | ((with_reducible refine gate_dst (N := 3) rfl ?_); refine bx_ 3 #[.slice A1_0 l1_0.length c1_0, .int .i64 a1_1] 30 ?_; intro gb122 hg w7 hbox hb; have BK122 := Aside0.mk (hbox); have GW122 := gs_ hg; have GE122 := gs_ hg; have NB121_122 := nl_ hg BK121; have NB122_121 := nr_ hg BK121; replace BK121 := kb_ BK121 hb; replace HB := Aside0.mk (below_step oB hb); clear hb hbox hg; have hnb8 := NB121_122.out; have hnc8 := NB122_121.out; obtain ⟨⟨_, _⟩, _, _⟩ := z2 BK121; obtain ⟨⟨_, _⟩, _, _⟩ := z2 BK122) | ((with_reducible refine gate_callee (f := 70) rfl ?_); refine gl_ 9 Try.func70 (laws_eqInodeS.calls k _ _ l0_0 _ _ l1_0 true _ (kC HR0_0) HC0_0.out (kC HR1_0) HC1_0.out A3.out) ?_; rintro e w11 ⟨rfl, hb⟩; refine ⟨_, rfl, ?_⟩; replace BK121 := kb_ BK121 hb; replace BK122 := kb_ BK122 hb; replace HB := Aside0.mk (below_step oB hb); obtain ⟨⟨_, _⟩, _, _⟩ := z2 BK121; obtain ⟨⟨_, _⟩, _, _⟩ := z2 BK122))
   go_ret
   exact ⟨oE, oB⟩
  ·rw [if_neg c5] at H
   have c5b0 : (a0_1 == a1_1) = false := beq_eq_false_iff_ne.mpr c5
   have c5b1 : (a0_1 != a1_1) = true := bne_iff_ne.mpr c5
   obtain rfl := Option.some.inj H
   go_enter Try.func25, Try.ntmps25
   go_wp2_with (first | ((with_reducible refine gate_dst (N := 2) rfl ?_); refine bx_ 2 #[.slice A0_0 l0_0.length c0_0, .int .i64 a0_1] 30 ?_; intro gb121 hg w14 hbox hb; have BK121 := Aside0.mk (hbox); have GW121 := gs_ hg; have GE121 := gs_ hg; replace HB := Aside0.mk (below_step oB hb); clear hb hbox hg) | ((with_reducible refine gate_dst (N := 3) rfl ?_); refine bx_ 3 #[.slice A1_0 l1_0.length c1_0, .int .i64 a1_1] 30 ?_; intro gb122 hg w15 hbox hb; have BK122 := Aside0.mk (hbox); have GW122 := gs_ hg; have GE122 := gs_ hg; have NB121_122 := nl_ hg BK121; have NB122_121 := nr_ hg BK121; replace BK121 := kb_ BK121 hb; replace HB := Aside0.mk (below_step oB hb); clear hb hbox hg; have hnb16 := NB121_122.out; have hnc16 := NB122_121.out; obtain ⟨⟨_, _⟩, _, _⟩ := z2 BK121; obtain ⟨⟨_, _⟩, _, _⟩ := z2 BK122) | ((with_reducible refine gate_callee (f := 70) rfl ?_); refine gl_ 9 Try.func70 (laws_eqInodeS.calls k _ _ l0_0 _ _ l1_0 true _ (kC HR0_0) HC0_0.out (kC HR1_0) HC1_0.out A3.out) ?_; rintro e w19 ⟨rfl, hb⟩; refine ⟨_, rfl, ?_⟩; replace BK121 := kb_ BK121 hb; replace BK122 := kb_ BK122 hb; replace HB := Aside0.mk (below_step oB hb); obtain ⟨⟨_, _⟩, _, _⟩ := z2 BK121; obtain ⟨⟨_, _⟩, _, _⟩ := z2 BK122))
   go_ret
   exact ⟨oE, oB⟩
 ·obtain rfl := Option.some.inj H
  go_enter Try.func25, Try.ntmps25
  go_wp2_with (first | ((with_reducible refine gate_dst (N := 2) rfl ?_); refine bx_ 2 #[.slice A0_0 l0_0.length c0_0, .int .i64 a0_1] 30 ?_; intro gb121 hg w22 hbox hb; have BK121 := Aside0.mk (hbox); have GW121 := gs_ hg; have GE121 := gs_ hg; replace HB := Aside0.mk (below_step oB hb); clear hb hbox hg) | ((with_reducible refine gate_dst (N := 3) rfl ?_); refine bx_ 3 #[.slice A1_0 l1_0.length c1_0, .int .i64 a1_1] 30 ?_; intro gb122 hg w23 hbox hb; have BK122 := Aside0.mk (hbox); have GW122 := gs_ hg; have GE122 := gs_ hg; have NB121_122 := nl_ hg BK121; have NB122_121 := nr_ hg BK121; replace BK121 := kb_ BK121 hb; replace HB := Aside0.mk (below_step oB hb); clear hb hbox hg; have hnb24 := NB121_122.out; have hnc24 := NB122_121.out; obtain ⟨⟨_, _⟩, _, _⟩ := z2 BK121; obtain ⟨⟨_, _⟩, _, _⟩ := z2 BK122) | ((with_reducible refine gate_callee (f := 70) rfl ?_); refine gl_ 9 Try.func70 (laws_eqInodeS.calls k _ _ l0_0 _ _ l1_0 false _ (kC HR0_0) HC0_0.out (kC HR1_0) HC1_0.out A3.out) ?_; rintro e w27 ⟨rfl, hb⟩; refine ⟨_, rfl, ?_⟩; replace BK121 := kb_ BK121 hb; replace BK122 := kb_ BK122 hb; replace HB := Aside0.mk (below_step oB hb)))
  go_ret
  exact ⟨oE, oB⟩

/-! ### laws_szByteS: function 73 -/
def laws_szByteS.f (l0 : List Int) (a1 : Int) : Option (Int) := if (wrap64 (a1 - (l0.length : Int))) < 0 then (some (-1)) else (some (wrap64 (a1 - (l0.length : Int))))
set_option maxHeartbeats 8000000 in
set_option maxRecDepth 100000 in
theorem laws_szByteS.calls (A0 : Option Addr) (c0 : Nat) (l0 : List Int) (a1 : Int) (r : Int) (w : World) (hr0 : Kd.C (Kd.int .u8) w A0 l0.length l0) (hc0 : l0.length ≤ c0) (h : laws_szByteS.f l0 a1 = some r) :
  Calls Try.prog 73 #[.slice A0 l0.length c0, .int .i64 a1] w fun e w' => e = .returned (.int .i64 r) ∧ Drawn0 w w' := by
 have HR0 := Aside0.mk hr0
 have HC0 := Aside0.mk hc0
 clear hr0 hc0
 unfold laws_szByteS.f at h
 have H := h
 clear h
 replace H := itD H
 rcases H with ⟨c3b0, H⟩ | ⟨c3b0, H⟩
 ·obtain rfl := Option.some.inj H
  go_enter Try.func73, Try.ntmps73
  go_wp2
  go_ret
  exact ⟨oS, oD⟩
 ·obtain rfl := Option.some.inj H
  go_enter Try.func73, Try.ntmps73
  go_wp2
  go_ret
  exact ⟨oS, oD⟩

/-! ### laws_szEnt: function 125 -/
def laws_szEnt.f (a0_0 : ByteArray) (a0_1 : Int) (a1 : Int) : Option (Int) := if (wrap64 (a1 - (a0_0.size : Int))) < 0 then (some (-1)) else (some (wrap64 (a1 - (a0_0.size : Int))))
set_option maxHeartbeats 8000000 in
set_option maxRecDepth 100000 in
theorem laws_szEnt.calls (a0_0 : ByteArray) (a0_1 : Int) (a1 : Int) (r : Int) (w : World) (h : laws_szEnt.f a0_0 a0_1 a1 = some r) :
  Calls Try.prog 125 #[.agg #[.string a0_0, .int .i64 a0_1], .int .i64 a1] w fun e w' => e = .returned (.int .i64 r) ∧ Below w.heap.size w w' := by
 have hu125 := Try.underlying125
 have HB := Aside0.mk (Below.refl w.heap.size w)
 unfold laws_szEnt.f at h
 have H := h
 clear h
 replace H := itD H
 rcases H with ⟨c3b0, H⟩ | ⟨c3b0, H⟩
 ·obtain rfl := Option.some.inj H
  go_enter Try.func125, Try.ntmps125
  go_wp2_with (first | ((with_reducible refine gate_dst (N := 2) rfl ?_); refine bx_ 2 #[.string a0_0, .int .i64 a0_1] 125 ?_; intro gb124 hg w4 hbox hb; have BK124 := Aside0.mk (hbox); have GW124 := gs_ hg; have GE124 := gs_ hg; replace HB := Aside0.mk (below_step oB hb); clear hb hbox hg; obtain ⟨⟨_, _⟩, _, _⟩ := z2 BK124))
  go_ret
  exact ⟨oE, oB⟩
 ·obtain rfl := Option.some.inj H
  go_enter Try.func125, Try.ntmps125
  go_wp2_with (first | ((with_reducible refine gate_dst (N := 2) rfl ?_); refine bx_ 2 #[.string a0_0, .int .i64 a0_1] 125 ?_; intro gb124 hg w6 hbox hb; have BK124 := Aside0.mk (hbox); have GW124 := gs_ hg; have GE124 := gs_ hg; replace HB := Aside0.mk (below_step oB hb); clear hb hbox hg; obtain ⟨⟨_, _⟩, _, _⟩ := z2 BK124))
  go_ret
  exact ⟨oE, oB⟩

/-! ### laws_szEntS: function 74 -/
def laws_szEntS.l0 : Nat → List (S125) → Int → Int → Option (Int)
 | 0, _, _, _ => none
 | k + 1, x0, x1, x5 => if x5 < (x0.length : Int) then (if 0 ≤ x5 then ((laws_szEnt.f ((rd_T125 x0 x5).f0) ((rd_T125 x0 x5).f1) x1).bind fun t126 => (if t126 < 0 then (some (-1)) else (laws_szEntS.l0 k x0 t126 (wrap64 (x5 + 1))))) else (none)) else (some x1)
def laws_szEntS.f (k : Nat) (l0 : List (S125)) (a1 : Int) : Option (Int) := if (wrap64 (a1 - (l0.length : Int))) < 0 then (some (-1)) else (laws_szEntS.l0 k l0 (wrap64 (a1 - (l0.length : Int))) 0)
set_option maxHeartbeats 8000000 in
set_option maxRecDepth 100000 in
theorem laws_szEntS.calls (k : Nat) (A0 : Option Addr) (c0 : Nat) (l0 : List (S125)) (a1 : Int) (r : Int) (w : World) (hr0 : Kd.C k125 w A0 l0.length l0) (hc0 : l0.length ≤ c0) (h : laws_szEntS.f k l0 a1 = some r) :
  Calls Try.prog 74 #[.slice A0 l0.length c0, .int .i64 a1] w fun e w' => e = .returned (.int .i64 r) ∧ Below w.heap.size w w' := by
 have hu125 := Try.underlying125
 have HR0 := Aside0.mk hr0
 have HC0 := Aside0.mk hc0
 clear hr0 hc0
 have HB := Aside0.mk (Below.refl w.heap.size w)
 unfold laws_szEntS.f at h
 have H := h
 clear h
 replace H := itD H
 rcases H with ⟨c3b0, H⟩ | ⟨c3b0, H⟩
 ·obtain rfl := Option.some.inj H
  go_enter Try.func74, Try.ntmps74
  go_wp2
  go_ret
  exact ⟨oE, oB⟩
 ·have H' := Aside0.mk H
  clear H
  go_enter Try.func74, Try.ntmps74
  go_wp2
  go_loopg [1, 5] k (fun kq v1 v5 w' => ∃ (x1_1 : Int) (x5_1 : Int), v1 = .int .i64 x1_1 ∧ v5 = .int .i64 x5_1 ∧ Aside0 (laws_szEntS.l0 kq l0 x1_1 x5_1 = some r) ∧ Aside0 (kq ≤ k) ∧ Aside0 (Below w.heap.size w w'))
  case atStart => exact ⟨(wrap64 (a1 - (l0.length : Int))), (0), oS, oS, H', ⟨Nat.le_refl _⟩, ⟨oB⟩⟩
  case round =>
   clear H'
   try clear c3b0
   obtain ⟨x1_1, x5_1, rfl, rfl, HA, HK1, HB⟩ := hrel
   cases gk with
   | zero => exact absurd HA.out (by simp [laws_szEntS.l0])
   | succ k1 =>
    have H := HA.out
    clear HA
    simp only [laws_szEntS.l0] at H
    replace H := itD H
    rcases H with ⟨c4b0, H⟩ | ⟨c4b0, H⟩
    ·replace H := itD H
     rcases H with ⟨c5b0, H⟩ | ⟨c5b0, H⟩
     ·replace H := bA H
      obtain ⟨t126, A6, H⟩ := H
      try dsimp only at H
      replace H := itD H
      rcases H with ⟨c7b0, H⟩ | ⟨c7b0, H⟩
      ·obtain rfl := Option.some.inj H
       have p125 : (0 ≤ (x5_1 : Int)) = True := oT
       have q125 : (x5_1 < (l0.length : Int)) = True := oT
       obtain ⟨ad125, e125, hx125_0, hx125_1⟩ := at_T125 HR0.out x5_1 oa oa
       cases e125
       replace hx125_0 := cB HB hx125_0
       replace hx125_1 := cB HB hx125_1
       go_wp2_with (first | ((with_reducible refine gate_callee (f := 125) rfl ?_); refine gl_ 23 Try.func125 (laws_szEnt.calls ((rd_T125 l0 x5_1).f0) ((rd_T125 l0 x5_1).f1) x1_1 t126 _ A6.out) ?_; rintro e w8 ⟨rfl, hb⟩; refine ⟨_, rfl, ?_⟩; replace HB := Aside0.mk (below_step oB hb)))
       go_ret
       exact ⟨oE, oB⟩
      ·have H' := Aside0.mk H
       clear H
       have p125 : (0 ≤ (x5_1 : Int)) = True := oT
       have q125 : (x5_1 < (l0.length : Int)) = True := oT
       obtain ⟨ad125, e125, hx125_0, hx125_1⟩ := at_T125 HR0.out x5_1 oa oa
       cases e125
       replace hx125_0 := cB HB hx125_0
       replace hx125_1 := cB HB hx125_1
       go_wp2_with (first | ((with_reducible refine gate_callee (f := 125) rfl ?_); refine gl_ 23 Try.func125 (laws_szEnt.calls ((rd_T125 l0 x5_1).f0) ((rd_T125 l0 x5_1).f1) x1_1 t126 _ A6.out) ?_; rintro e w9 ⟨rfl, hb⟩; refine ⟨_, rfl, ?_⟩; replace HB := Aside0.mk (below_step oB hb)))
       go_roundg k1
       case measure => have := HK1.out; omega
       case rel => exact ⟨(t126), (wrap64 (x5_1 + 1)), oS, oS, H', ⟨by have := HK1.out; omega⟩, ⟨oB⟩⟩
     ·cases H
    ·obtain rfl := Option.some.inj H
     go_wp2
     go_ret
     exact ⟨oE, oB⟩

/-! ### laws_szAttr: function 126 -/
def laws_szAttr.f (a0_0 : ByteArray) (a0_1 : ByteArray) (a1 : Int) : Option (Int) := if (wrap64 (a1 - (a0_0.size : Int))) < 0 then (some (-1)) else (if (wrap64 ((wrap64 (a1 - (a0_0.size : Int))) - (a0_1.size : Int))) < 0 then (some (-1)) else (some (wrap64 ((wrap64 (a1 - (a0_0.size : Int))) - (a0_1.size : Int)))))
set_option maxHeartbeats 8000000 in
set_option maxRecDepth 100000 in
theorem laws_szAttr.calls (a0_0 : ByteArray) (a0_1 : ByteArray) (a1 : Int) (r : Int) (w : World) (h : laws_szAttr.f a0_0 a0_1 a1 = some r) :
  Calls Try.prog 126 #[.agg #[.string a0_0, .string a0_1], .int .i64 a1] w fun e w' => e = .returned (.int .i64 r) ∧ Below w.heap.size w w' := by
 have hu127 := Try.underlying127
 have HB := Aside0.mk (Below.refl w.heap.size w)
 unfold laws_szAttr.f at h
 have H := h
 clear h
 replace H := itD H
 rcases H with ⟨c3b0, H⟩ | ⟨c3b0, H⟩
 ·obtain rfl := Option.some.inj H
  go_enter Try.func126, Try.ntmps126
  go_wp2_with (first | ((with_reducible refine gate_dst (N := 2) rfl ?_); refine bx_ 2 #[.string a0_0, .string a0_1] 127 ?_; intro gb127 hg w4 hbox hb; have BK127 := Aside0.mk (hbox); have GW127 := gs_ hg; have GE127 := gs_ hg; replace HB := Aside0.mk (below_step oB hb); clear hb hbox hg; obtain ⟨⟨_, _⟩, _, _⟩ := z2 BK127))
  go_ret
  exact ⟨oE, oB⟩
 ·replace H := itD H
  rcases H with ⟨c6b0, H⟩ | ⟨c6b0, H⟩
  ·obtain rfl := Option.some.inj H
   go_enter Try.func126, Try.ntmps126
   go_wp2_with (first | ((with_reducible refine gate_dst (N := 2) rfl ?_); refine bx_ 2 #[.string a0_0, .string a0_1] 127 ?_; intro gb127 hg w7 hbox hb; have BK127 := Aside0.mk (hbox); have GW127 := gs_ hg; have GE127 := gs_ hg; replace HB := Aside0.mk (below_step oB hb); clear hb hbox hg; obtain ⟨⟨_, _⟩, _, _⟩ := z2 BK127))
   go_ret
   exact ⟨oE, oB⟩
  ·obtain rfl := Option.some.inj H
   go_enter Try.func126, Try.ntmps126
   go_wp2_with (first | ((with_reducible refine gate_dst (N := 2) rfl ?_); refine bx_ 2 #[.string a0_0, .string a0_1] 127 ?_; intro gb127 hg w9 hbox hb; have BK127 := Aside0.mk (hbox); have GW127 := gs_ hg; have GE127 := gs_ hg; replace HB := Aside0.mk (below_step oB hb); clear hb hbox hg; obtain ⟨⟨_, _⟩, _, _⟩ := z2 BK127))
   go_ret
   exact ⟨oE, oB⟩

/-! ### laws_szAttrS: function 75 -/
def laws_szAttrS.l0 : Nat → List (S127) → Int → Int → Option (Int)
 | 0, _, _, _ => none
 | k + 1, x0, x1, x5 => if x5 < (x0.length : Int) then (if 0 ≤ x5 then ((laws_szAttr.f ((rd_T127 x0 x5).f0) ((rd_T127 x0 x5).f1) x1).bind fun t129 => (if t129 < 0 then (some (-1)) else (laws_szAttrS.l0 k x0 t129 (wrap64 (x5 + 1))))) else (none)) else (some x1)
def laws_szAttrS.f (k : Nat) (l0 : List (S127)) (a1 : Int) : Option (Int) := if (wrap64 (a1 - (l0.length : Int))) < 0 then (some (-1)) else (laws_szAttrS.l0 k l0 (wrap64 (a1 - (l0.length : Int))) 0)
set_option maxHeartbeats 8000000 in
set_option maxRecDepth 100000 in
theorem laws_szAttrS.calls (k : Nat) (A0 : Option Addr) (c0 : Nat) (l0 : List (S127)) (a1 : Int) (r : Int) (w : World) (hr0 : Kd.C k127 w A0 l0.length l0) (hc0 : l0.length ≤ c0) (h : laws_szAttrS.f k l0 a1 = some r) :
  Calls Try.prog 75 #[.slice A0 l0.length c0, .int .i64 a1] w fun e w' => e = .returned (.int .i64 r) ∧ Below w.heap.size w w' := by
 have hu127 := Try.underlying127
 have HR0 := Aside0.mk hr0
 have HC0 := Aside0.mk hc0
 clear hr0 hc0
 have HB := Aside0.mk (Below.refl w.heap.size w)
 unfold laws_szAttrS.f at h
 have H := h
 clear h
 replace H := itD H
 rcases H with ⟨c3b0, H⟩ | ⟨c3b0, H⟩
 ·obtain rfl := Option.some.inj H
  go_enter Try.func75, Try.ntmps75
  go_wp2
  go_ret
  exact ⟨oE, oB⟩
 ·have H' := Aside0.mk H
  clear H
  go_enter Try.func75, Try.ntmps75
  go_wp2
  go_loopg [1, 5] k (fun kq v1 v5 w' => ∃ (x1_1 : Int) (x5_1 : Int), v1 = .int .i64 x1_1 ∧ v5 = .int .i64 x5_1 ∧ Aside0 (laws_szAttrS.l0 kq l0 x1_1 x5_1 = some r) ∧ Aside0 (kq ≤ k) ∧ Aside0 (Below w.heap.size w w'))
  case atStart => exact ⟨(wrap64 (a1 - (l0.length : Int))), (0), oS, oS, H', ⟨Nat.le_refl _⟩, ⟨oB⟩⟩
  case round =>
   clear H'
   try clear c3b0
   obtain ⟨x1_1, x5_1, rfl, rfl, HA, HK1, HB⟩ := hrel
   cases gk with
   | zero => exact absurd HA.out (by simp [laws_szAttrS.l0])
   | succ k1 =>
    have H := HA.out
    clear HA
    simp only [laws_szAttrS.l0] at H
    replace H := itD H
    rcases H with ⟨c4b0, H⟩ | ⟨c4b0, H⟩
    ·replace H := itD H
     rcases H with ⟨c5b0, H⟩ | ⟨c5b0, H⟩
     ·replace H := bA H
      obtain ⟨t129, A6, H⟩ := H
      try dsimp only at H
      replace H := itD H
      rcases H with ⟨c7b0, H⟩ | ⟨c7b0, H⟩
      ·obtain rfl := Option.some.inj H
       have p128 : (0 ≤ (x5_1 : Int)) = True := oT
       have q128 : (x5_1 < (l0.length : Int)) = True := oT
       obtain ⟨ad128, e128, hx128_0, hx128_1⟩ := at_T127 HR0.out x5_1 oa oa
       cases e128
       replace hx128_0 := cB HB hx128_0
       replace hx128_1 := cB HB hx128_1
       go_wp2_with (first | ((with_reducible refine gate_callee (f := 126) rfl ?_); refine gl_ 23 Try.func126 (laws_szAttr.calls ((rd_T127 l0 x5_1).f0) ((rd_T127 l0 x5_1).f1) x1_1 t129 _ A6.out) ?_; rintro e w8 ⟨rfl, hb⟩; refine ⟨_, rfl, ?_⟩; replace HB := Aside0.mk (below_step oB hb)))
       go_ret
       exact ⟨oE, oB⟩
      ·have H' := Aside0.mk H
       clear H
       have p128 : (0 ≤ (x5_1 : Int)) = True := oT
       have q128 : (x5_1 < (l0.length : Int)) = True := oT
       obtain ⟨ad128, e128, hx128_0, hx128_1⟩ := at_T127 HR0.out x5_1 oa oa
       cases e128
       replace hx128_0 := cB HB hx128_0
       replace hx128_1 := cB HB hx128_1
       go_wp2_with (first | ((with_reducible refine gate_callee (f := 126) rfl ?_); refine gl_ 23 Try.func126 (laws_szAttr.calls ((rd_T127 l0 x5_1).f0) ((rd_T127 l0 x5_1).f1) x1_1 t129 _ A6.out) ?_; rintro e w9 ⟨rfl, hb⟩; refine ⟨_, rfl, ?_⟩; replace HB := Aside0.mk (below_step oB hb)))
       go_roundg k1
       case measure => have := HK1.out; omega
       case rel => exact ⟨(t129), (wrap64 (x5_1 + 1)), oS, oS, H', ⟨by have := HK1.out; omega⟩, ⟨oB⟩⟩
     ·cases H
    ·obtain rfl := Option.some.inj H
     go_wp2
     go_ret
     exact ⟨oE, oB⟩

/-! ### laws_szInode: function 28 -/
def laws_szInode.f (k : Nat) (a0_0 : Int) (a0_1 : Int) (a0_2 : Int) (l0_3 : List Int) (l0_4 : List (S125)) (l0_5 : List (S127)) (a1 : Int) : Option (Int) := (laws_szByteS.f l0_3 a1).bind fun t131 => (if t131 < 0 then (some (-1)) else ((laws_szEntS.f k l0_4 t131).bind fun t132 => (if t132 < 0 then (some (-1)) else ((laws_szAttrS.f k l0_5 t132).bind fun t133 => (if t133 < 0 then (some (-1)) else (some t133))))))
set_option maxHeartbeats 8000000 in
set_option maxRecDepth 100000 in
theorem laws_szInode.calls (k : Nat) (a0_0 : Int) (a0_1 : Int) (a0_2 : Int) (A0_3 : Option Addr) (c0_3 : Nat) (l0_3 : List Int) (A0_4 : Option Addr) (c0_4 : Nat) (l0_4 : List (S125)) (A0_5 : Option Addr) (c0_5 : Nat) (l0_5 : List (S127)) (a1 : Int) (r : Int) (w : World) (hr0_3 : Kd.C (Kd.int .u8) w A0_3 l0_3.length l0_3) (hc0_3 : l0_3.length ≤ c0_3) (hr0_4 : Kd.C k125 w A0_4 l0_4.length l0_4) (hc0_4 : l0_4.length ≤ c0_4) (hr0_5 : Kd.C k127 w A0_5 l0_5.length l0_5) (hc0_5 : l0_5.length ≤ c0_5) (h : laws_szInode.f k a0_0 a0_1 a0_2 l0_3 l0_4 l0_5 a1 = some r) :
  Calls Try.prog 28 #[.agg #[.int .i64 a0_0, .int .i64 a0_1, .int .i64 a0_2, .slice A0_3 l0_3.length c0_3, .slice A0_4 l0_4.length c0_4, .slice A0_5 l0_5.length c0_5], .int .i64 a1] w fun e w' => e = .returned (.int .i64 r) ∧ Below w.heap.size w w' := by
 have hu39 := Try.underlying39
 have HR0_3 := Aside0.mk hr0_3
 have HC0_3 := Aside0.mk hc0_3
 clear hr0_3 hc0_3
 have HR0_4 := Aside0.mk hr0_4
 have HC0_4 := Aside0.mk hc0_4
 clear hr0_4 hc0_4
 have HR0_5 := Aside0.mk hr0_5
 have HC0_5 := Aside0.mk hc0_5
 clear hr0_5 hc0_5
 have HB := Aside0.mk (Below.refl w.heap.size w)
 unfold laws_szInode.f at h
 have H := h
 clear h
 replace H := bA H
 obtain ⟨t131, A3, H⟩ := H
 try dsimp only at H
 replace H := itD H
 rcases H with ⟨c4b0, H⟩ | ⟨c4b0, H⟩
 ·obtain rfl := Option.some.inj H
  go_enter Try.func28, Try.ntmps28
  go_wp2_with (first | ((with_reducible refine gate_dst (N := 2) rfl ?_); refine bx_ 2 #[.int .i64 a0_0, .int .i64 a0_1, .int .i64 a0_2, .slice A0_3 l0_3.length c0_3, .slice A0_4 l0_4.length c0_4, .slice A0_5 l0_5.length c0_5] 39 ?_; intro gb130 hg w5 hbox hb; have BK130 := Aside0.mk (hbox); have GW130 := gs_ hg; have GE130 := gs_ hg; replace HB := Aside0.mk (below_step oB hb); clear hb hbox hg; obtain ⟨⟨_, _, _, _, _, _⟩, _, _, _, _, _, _⟩ := z6 BK130) | ((with_reducible refine gate_callee (f := 73) rfl ?_); refine gl_ 8 Try.func73 (laws_szByteS.calls _ _ l0_3 a1 t131 _ (kC HR0_3) HC0_3.out A3.out) ?_; rintro e w' ⟨rfl, ⟨nd, rfl⟩⟩; refine ⟨_, rfl, ?_⟩))
  go_ret
  exact ⟨oE, oB⟩
 ·replace H := bA H
  obtain ⟨t132, A7, H⟩ := H
  try dsimp only at H
  replace H := itD H
  rcases H with ⟨c8b0, H⟩ | ⟨c8b0, H⟩
  ·obtain rfl := Option.some.inj H
   go_enter Try.func28, Try.ntmps28
   go_wp2_with (first | ((with_reducible refine gate_dst (N := 2) rfl ?_); refine bx_ 2 #[.int .i64 a0_0, .int .i64 a0_1, .int .i64 a0_2, .slice A0_3 l0_3.length c0_3, .slice A0_4 l0_4.length c0_4, .slice A0_5 l0_5.length c0_5] 39 ?_; intro gb130 hg w9 hbox hb; have BK130 := Aside0.mk (hbox); have GW130 := gs_ hg; have GE130 := gs_ hg; replace HB := Aside0.mk (below_step oB hb); clear hb hbox hg; obtain ⟨⟨_, _, _, _, _, _⟩, _, _, _, _, _, _⟩ := z6 BK130) | ((with_reducible refine gate_callee (f := 73) rfl ?_); refine gl_ 8 Try.func73 (laws_szByteS.calls _ _ l0_3 a1 t131 _ (kC HR0_3) HC0_3.out A3.out) ?_; rintro e w' ⟨rfl, ⟨nd, rfl⟩⟩; refine ⟨_, rfl, ?_⟩) | ((with_reducible refine gate_callee (f := 74) rfl ?_); refine gl_ 14 Try.func74 (laws_szEntS.calls k _ _ l0_4 t131 t132 _ (kC HR0_4) HC0_4.out A7.out) ?_; rintro e w11 ⟨rfl, hb⟩; refine ⟨_, rfl, ?_⟩; replace BK130 := kb_ BK130 hb; replace HB := Aside0.mk (below_step oB hb)))
   go_ret
   exact ⟨oE, oB⟩
  ·replace H := bA H
   obtain ⟨t133, A12, H⟩ := H
   try dsimp only at H
   replace H := itD H
   rcases H with ⟨c13b0, H⟩ | ⟨c13b0, H⟩
   ·obtain rfl := Option.some.inj H
    go_enter Try.func28, Try.ntmps28
    go_wp2_with (first | ((with_reducible refine gate_dst (N := 2) rfl ?_); refine bx_ 2 #[.int .i64 a0_0, .int .i64 a0_1, .int .i64 a0_2, .slice A0_3 l0_3.length c0_3, .slice A0_4 l0_4.length c0_4, .slice A0_5 l0_5.length c0_5] 39 ?_; intro gb130 hg w14 hbox hb; have BK130 := Aside0.mk (hbox); have GW130 := gs_ hg; have GE130 := gs_ hg; replace HB := Aside0.mk (below_step oB hb); clear hb hbox hg; obtain ⟨⟨_, _, _, _, _, _⟩, _, _, _, _, _, _⟩ := z6 BK130) | ((with_reducible refine gate_callee (f := 73) rfl ?_); refine gl_ 8 Try.func73 (laws_szByteS.calls _ _ l0_3 a1 t131 _ (kC HR0_3) HC0_3.out A3.out) ?_; rintro e w' ⟨rfl, ⟨nd, rfl⟩⟩; refine ⟨_, rfl, ?_⟩) | ((with_reducible refine gate_callee (f := 74) rfl ?_); refine gl_ 14 Try.func74 (laws_szEntS.calls k _ _ l0_4 t131 t132 _ (kC HR0_4) HC0_4.out A7.out) ?_; rintro e w16 ⟨rfl, hb⟩; refine ⟨_, rfl, ?_⟩; replace BK130 := kb_ BK130 hb; replace HB := Aside0.mk (below_step oB hb); obtain ⟨⟨_, _, _, _, _, _⟩, _, _, _, _, _, _⟩ := z6 BK130) | ((with_reducible refine gate_callee (f := 75) rfl ?_); refine gl_ 20 Try.func75 (laws_szAttrS.calls k _ _ l0_5 t132 t133 _ (kC HR0_5) HC0_5.out A12.out) ?_; rintro e w18 ⟨rfl, hb⟩; refine ⟨_, rfl, ?_⟩; replace BK130 := kb_ BK130 hb; replace HB := Aside0.mk (below_step oB hb)))
    go_ret
    exact ⟨oE, oB⟩
   ·obtain rfl := Option.some.inj H
    go_enter Try.func28, Try.ntmps28
    go_wp2_with (first | ((with_reducible refine gate_dst (N := 2) rfl ?_); refine bx_ 2 #[.int .i64 a0_0, .int .i64 a0_1, .int .i64 a0_2, .slice A0_3 l0_3.length c0_3, .slice A0_4 l0_4.length c0_4, .slice A0_5 l0_5.length c0_5] 39 ?_; intro gb130 hg w19 hbox hb; have BK130 := Aside0.mk (hbox); have GW130 := gs_ hg; have GE130 := gs_ hg; replace HB := Aside0.mk (below_step oB hb); clear hb hbox hg; obtain ⟨⟨_, _, _, _, _, _⟩, _, _, _, _, _, _⟩ := z6 BK130) | ((with_reducible refine gate_callee (f := 73) rfl ?_); refine gl_ 8 Try.func73 (laws_szByteS.calls _ _ l0_3 a1 t131 _ (kC HR0_3) HC0_3.out A3.out) ?_; rintro e w' ⟨rfl, ⟨nd, rfl⟩⟩; refine ⟨_, rfl, ?_⟩) | ((with_reducible refine gate_callee (f := 74) rfl ?_); refine gl_ 14 Try.func74 (laws_szEntS.calls k _ _ l0_4 t131 t132 _ (kC HR0_4) HC0_4.out A7.out) ?_; rintro e w21 ⟨rfl, hb⟩; refine ⟨_, rfl, ?_⟩; replace BK130 := kb_ BK130 hb; replace HB := Aside0.mk (below_step oB hb); obtain ⟨⟨_, _, _, _, _, _⟩, _, _, _, _, _, _⟩ := z6 BK130) | ((with_reducible refine gate_callee (f := 75) rfl ?_); refine gl_ 20 Try.func75 (laws_szAttrS.calls k _ _ l0_5 t132 t133 _ (kC HR0_5) HC0_5.out A12.out) ?_; rintro e w23 ⟨rfl, hb⟩; refine ⟨_, rfl, ?_⟩; replace BK130 := kb_ BK130 hb; replace HB := Aside0.mk (below_step oB hb)))
    go_ret
    exact ⟨oE, oB⟩

end Go.Proofs.Ytkknehgaebhbeaa.P
