-- By this session's own program (wip/myprint.py) out of the translation; Lean checks it.
import Derived.Test.YtkfcmpalbhmmaaaDoorPx0
import Derived.Test.YtkfcmpalbhmmaaaDoorPx1
import Derived.Test.YtkfcmpalbhmmaaaDoorPx2
import Derived.Test.YtkfcmpalbhmmaaaDoorPx3
namespace Go.Proofs.YtkfcmpalbhmmaaaDoor.P
open Go.RowKit Go.Proofs.YtkfcmpalbhmmaaaDoorW.PrintWords Go.Proofs.YtkfcmpalbhmmaaaDoorW.PrintLast Go.Proofs.YtkfcmpalbhmmaaaDoorW.PrintMore
attribute [local go_sem] max2_int min2_int max_two min_two max_three min_three max_four min_four   -- for this text's walks alone
set_option linter.unusedVariables false
set_option linter.unusedSimpArgs false

/-! ### laws_eqInodeS: function 69 -/
def laws_eqInodeS.l0 : Nat → List (S64) → List (S64) → Int → Option (Bool)
 | 0, _, _, _ => none
 | k + 1, x0, x1, x5 => if x5 < (x0.length : Int) then (if 0 ≤ x5 then (if x5 < (x1.length : Int) then ((laws_eqInode.f k ((rd_T64 x0 x5).f0) ((rd_T64 x0 x5).f1) ((rd_T64 x0 x5).f2) ((rd_T64 x0 x5).f3) ((rd_T64 x0 x5).f4) ((rd_T64 x0 x5).f5) ((rd_T64 x1 x5).f0) ((rd_T64 x1 x5).f1) ((rd_T64 x1 x5).f2) ((rd_T64 x1 x5).f3) ((rd_T64 x1 x5).f4) ((rd_T64 x1 x5).f5)).bind fun t315 => (if t315 = true then (laws_eqInodeS.l0 k x0 x1 (wrap64 (x5 + 1))) else (some false))) else (none)) else (none)) else (some true)
def laws_eqInodeS.f (k : Nat) (l0 : List (S64)) (l1 : List (S64)) : Option (Bool) := if (l0.length : Int) = (l1.length : Int) then (laws_eqInodeS.l0 k l0 l1 0) else (some false)
def laws_eqInodeS.T6 : Bool × List (List Nat × List Nat) := (true, [([], []), ([], []), ([0, 1], [0, 1]), ([2], [2]), ([], []), ([], []), ([4, 5], [4, 5]), ([6], [6]), ([3, 7], [3, 7]), ([8], [8])])
def laws_eqInodeS.B6 : List Nat := [0, 0, 3, 7, 0, 0, 48, 112, 255, 511]
theorem laws_eqInodeS.tab6 : rtab .any (opsOf Tryd.f69 6) = laws_eqInodeS.T6 := by kernel_rfl
theorem laws_eqInodeS.bits6 : waitsOk laws_eqInodeS.T6.2 laws_eqInodeS.B6 = true := by kernel_rfl
set_option maxHeartbeats 8000000 in
set_option maxRecDepth 100000 in
theorem laws_eqInodeS.calls (k : Nat) (A0 : Option Addr) (c0 : Nat) (l0 : List (S64)) (A1 : Option Addr) (c1 : Nat) (l1 : List (S64)) (r : Bool) (w : World) (hr0 : Kd.C k64 w A0 l0.length l0) (hc0 : l0.length ≤ c0) (hr1 : Kd.C k64 w A1 l1.length l1) (hc1 : l1.length ≤ c1) (h : laws_eqInodeS.f k l0 l1 = some r) :
  Calls Tryd.prog 69 #[.slice A0 l0.length c0, .slice A1 l1.length c1] w fun e w' => e = .returned (.bool r) ∧ Below w.heap.size w w' := by
 have hu64 := Tryd.underlying64
 have HR0 := Aside0.mk hr0
 have HC0 := Aside0.mk hc0
 clear hr0 hc0
 have HR1 := Aside0.mk hr1
 have HC1 := Aside0.mk hc1
 clear hr1 hc1
 have HB := Aside0.mk (Below.refl w.heap.size w)
 unfold laws_eqInodeS.f at h
 have H := h
 clear h
 by_cases c3 : (l0.length : Int) = (l1.length : Int)
 ·rw [if_pos c3] at H
  have c3b0 : ((l0.length : Int) == (l1.length : Int)) = true := beq_iff_eq.mpr c3
  have c3b1 : ((l0.length : Int) != (l1.length : Int)) = false := bne_eq_false_iff_eq.mpr c3
  have c3b2 : (l0.length == l1.length) = true := by first | simpa using c3 | (simp at c3 ⊢; omega)
  clear c3
  have H' := Aside0.mk H
  clear H
  go_enter Tryd.func69, Tryd.ntmps69
  go_wp2
  go_loopg [5] k (fun kq v5 w' => ∃ (x5_1 : Int), v5 = .int .i64 x5_1 ∧ Aside0 (laws_eqInodeS.l0 kq l0 l1 x5_1 = some r) ∧ Aside0 (kq ≤ k) ∧ Aside0 (Below w.heap.size w w'))
  case atStart => exact ⟨(0), oS, H', ⟨Nat.le_refl _⟩, ⟨oB⟩⟩
  case round =>
   clear H'
   try clear c1
   try clear c3
   obtain ⟨x5_1, rfl, HA, HK1, HB⟩ := hrel
   cases gk with
   | zero => exact absurd HA.out (by simp [laws_eqInodeS.l0])
   | succ k1 =>
    have H := HA.out
    clear HA
    simp only [laws_eqInodeS.l0] at H
    replace H := itD H
    rcases H with ⟨c4b0, H⟩ | ⟨c4b0, H⟩
    ·replace H := itD H
     rcases H with ⟨c5b0, H⟩ | ⟨c5b0, H⟩
     ·replace H := itD H
      rcases H with ⟨c6b0, H⟩ | ⟨c6b0, H⟩
      ·replace H := bA H
       obtain ⟨t315, A7, H⟩ := H
       try dsimp only at H
       replace H := itB H
       rcases H with ⟨rfl, H⟩ | ⟨rfl, H⟩
       ·have H' := Aside0.mk H
        clear H
        try go_wp2
        replace HB := Aside0.mk (below_drew1 HB.out)
        have p313 : (0 ≤ (x5_1 : Int)) = True := oT
        have q313 : (x5_1 < (l0.length : Int)) = True := oT
        obtain ⟨ad313, A313_3, c313_3, A313_4, c313_4, A313_5, c313_5, e313, hx313_0, hx313_1, hx313_2, hx313_3, hx313_4, hx313_5, hl313_3, hi313_3, hl313_4, hi313_4, hl313_5, hi313_5⟩ := at_T64 HR0.out x5_1 oa oa
        have hw313_5 := hx313_5
        have hw313_4 := hx313_4
        have hw313_3 := hx313_3
        have hw313_2 := hx313_2
        have hw313_1 := hx313_1
        have hw313_0 := hx313_0
        cases e313
        replace hx313_0 := cB HB hx313_0
        replace hx313_1 := cB HB hx313_1
        replace hx313_2 := cB HB hx313_2
        replace hx313_3 := cB HB hx313_3
        replace hx313_4 := cB HB hx313_4
        replace hx313_5 := cB HB hx313_5
        have HR313_3 := Aside0.mk hi313_3
        have HC313_3 := Aside0.mk hl313_3
        clear hi313_3 hl313_3
        have HR313_4 := Aside0.mk hi313_4
        have HC313_4 := Aside0.mk hl313_4
        clear hi313_4 hl313_4
        have HR313_5 := Aside0.mk hi313_5
        have HC313_5 := Aside0.mk hl313_5
        clear hi313_5 hl313_5
        have p314 : (0 ≤ (x5_1 : Int)) = True := oT
        have q314 : (x5_1 < (l1.length : Int)) = True := oT
        obtain ⟨ad314, A314_3, c314_3, A314_4, c314_4, A314_5, c314_5, e314, hx314_0, hx314_1, hx314_2, hx314_3, hx314_4, hx314_5, hl314_3, hi314_3, hl314_4, hi314_4, hl314_5, hi314_5⟩ := at_T64 HR1.out x5_1 oa oa
        have hw314_5 := hx314_5
        have hw314_4 := hx314_4
        have hw314_3 := hx314_3
        have hw314_2 := hx314_2
        have hw314_1 := hx314_1
        have hw314_0 := hx314_0
        cases e314
        replace hx314_0 := cB HB hx314_0
        replace hx314_1 := cB HB hx314_1
        replace hx314_2 := cB HB hx314_2
        replace hx314_3 := cB HB hx314_3
        replace hx314_4 := cB HB hx314_4
        replace hx314_5 := cB HB hx314_5
        have HR314_3 := Aside0.mk hi314_3
        have HC314_3 := Aside0.mk hl314_3
        clear hi314_3 hl314_3
        have HR314_4 := Aside0.mk hi314_4
        have HC314_4 := Aside0.mk hl314_4
        clear hi314_4 hl314_4
        have HR314_5 := Aside0.mk hi314_5
        have HC314_5 := Aside0.mk hl314_5
        clear hi314_5 hl314_5
        refine st_ 10 (fun w' => w'.cell? (ad313.add ((x5_1).toNat * 6)) = some (.int .i64 ((rd_T64 l0 x5_1).f0)) ∧ w'.cell? ⟨(ad313.add ((x5_1).toNat * 6)).block, (ad313.add ((x5_1).toNat * 6)).off + 1, none⟩ = some (.int .i64 ((rd_T64 l0 x5_1).f1)) ∧ w'.cell? ⟨(ad313.add ((x5_1).toNat * 6)).block, (ad313.add ((x5_1).toNat * 6)).off + 2, none⟩ = some (.int .i64 ((rd_T64 l0 x5_1).f2)) ∧ w'.cell? ⟨(ad313.add ((x5_1).toNat * 6)).block, (ad313.add ((x5_1).toNat * 6)).off + 3, none⟩ = some (.slice A313_3 ((rd_T64 l0 x5_1).f3).length c313_3) ∧ w'.cell? ⟨(ad313.add ((x5_1).toNat * 6)).block, (ad313.add ((x5_1).toNat * 6)).off + 4, none⟩ = some (.slice A313_4 ((rd_T64 l0 x5_1).f4).length c313_4) ∧ w'.cell? ⟨(ad313.add ((x5_1).toNat * 6)).block, (ad313.add ((x5_1).toNat * 6)).off + 5, none⟩ = some (.slice A313_5 ((rd_T64 l0 x5_1).f5).length c313_5) ∧ w'.cell? (ad314.add ((x5_1).toNat * 6)) = some (.int .i64 ((rd_T64 l1 x5_1).f0)) ∧ w'.cell? ⟨(ad314.add ((x5_1).toNat * 6)).block, (ad314.add ((x5_1).toNat * 6)).off + 1, none⟩ = some (.int .i64 ((rd_T64 l1 x5_1).f1)) ∧ w'.cell? ⟨(ad314.add ((x5_1).toNat * 6)).block, (ad314.add ((x5_1).toNat * 6)).off + 2, none⟩ = some (.int .i64 ((rd_T64 l1 x5_1).f2)) ∧ w'.cell? ⟨(ad314.add ((x5_1).toNat * 6)).block, (ad314.add ((x5_1).toNat * 6)).off + 3, none⟩ = some (.slice A314_3 ((rd_T64 l1 x5_1).f3).length c314_3) ∧ w'.cell? ⟨(ad314.add ((x5_1).toNat * 6)).block, (ad314.add ((x5_1).toNat * 6)).off + 4, none⟩ = some (.slice A314_4 ((rd_T64 l1 x5_1).f4).length c314_4) ∧ w'.cell? ⟨(ad314.add ((x5_1).toNat * 6)).block, (ad314.add ((x5_1).toNat * 6)).off + 5, none⟩ = some (.slice A314_5 ((rd_T64 l1 x5_1).f5).length c314_5)) laws_eqInodeS.tab6 laws_eqInodeS.bits6 oH (fun hHeld HT_ HW_ => ?_)
        generalize wr.drew = w9 at HB HR313_3 HR313_4 HR313_5 HR314_3 HR314_4 HR314_5 hx313_0 hx313_1 hx313_2 hx313_3 hx313_4 hx313_5 hx314_0 hx314_1 hx314_2 hx314_3 hx314_4 hx314_5 hHeld ⊢
        refine pu_ 0 17 HT_ ?_
        refine pu_ 1 18 HT_ ?_
        refine pu_ 2 19 HT_ ?_
        refine pu_ 4 21 HT_ ?_
        refine pu_ 5 22 HT_ ?_
        refine pu_ 6 23 HT_ ?_
        refine ta_ 3 20 HT_ HW_ hHeld ?_
        refine ta_ 7 24 HT_ HW_ hHeld ?_
        refine on_ 8 25 HT_ (fun K hK => ?_)
        refine gr_ 25 Tryd.func49 (laws_eqInode.calls k1 ((rd_T64 l0 x5_1).f0) ((rd_T64 l0 x5_1).f1) ((rd_T64 l0 x5_1).f2) _ _ ((rd_T64 l0 x5_1).f3) _ _ ((rd_T64 l0 x5_1).f4) _ _ ((rd_T64 l0 x5_1).f5) ((rd_T64 l1 x5_1).f0) ((rd_T64 l1 x5_1).f1) ((rd_T64 l1 x5_1).f2) _ _ ((rd_T64 l1 x5_1).f3) _ _ ((rd_T64 l1 x5_1).f4) _ _ ((rd_T64 l1 x5_1).f5) true _ (kC HR313_3) HC313_3.out (kC HR313_4) HC313_4.out (kC HR313_5) HC313_5.out (kC HR314_3) HC314_3.out (kC HR314_4) HC314_4.out (kC HR314_5) HC314_5.out A7.out) ?_
        rintro e w10 ⟨rfl, hb⟩
        refine ⟨_, rfl, ?_⟩
        replace HB := Aside0.mk (below_step oB hb)
        refine hk_ hK 25 oH (fun hHeld => ?_)
        clear hK K
        refine pu_ 9 26 HT_ ?_
        refine dn_ HT_ ?_
        try go_wp2
        go_roundg k1
        case measure => have := HK1.out; omega
        case rel => exact ⟨(wrap64 (x5_1 + 1)), oS, H', ⟨by have := HK1.out; omega⟩, ⟨oB⟩⟩
       ·obtain rfl := Option.some.inj H
        try go_wp2
        replace HB := Aside0.mk (below_drew1 HB.out)
        have p313 : (0 ≤ (x5_1 : Int)) = True := oT
        have q313 : (x5_1 < (l0.length : Int)) = True := oT
        obtain ⟨ad313, A313_3, c313_3, A313_4, c313_4, A313_5, c313_5, e313, hx313_0, hx313_1, hx313_2, hx313_3, hx313_4, hx313_5, hl313_3, hi313_3, hl313_4, hi313_4, hl313_5, hi313_5⟩ := at_T64 HR0.out x5_1 oa oa
        have hw313_5 := hx313_5
        have hw313_4 := hx313_4
        have hw313_3 := hx313_3
        have hw313_2 := hx313_2
        have hw313_1 := hx313_1
        have hw313_0 := hx313_0
        cases e313
        replace hx313_0 := cB HB hx313_0
        replace hx313_1 := cB HB hx313_1
        replace hx313_2 := cB HB hx313_2
        replace hx313_3 := cB HB hx313_3
        replace hx313_4 := cB HB hx313_4
        replace hx313_5 := cB HB hx313_5
        have HR313_3 := Aside0.mk hi313_3
        have HC313_3 := Aside0.mk hl313_3
        clear hi313_3 hl313_3
        have HR313_4 := Aside0.mk hi313_4
        have HC313_4 := Aside0.mk hl313_4
        clear hi313_4 hl313_4
        have HR313_5 := Aside0.mk hi313_5
        have HC313_5 := Aside0.mk hl313_5
        clear hi313_5 hl313_5
        have p314 : (0 ≤ (x5_1 : Int)) = True := oT
        have q314 : (x5_1 < (l1.length : Int)) = True := oT
        obtain ⟨ad314, A314_3, c314_3, A314_4, c314_4, A314_5, c314_5, e314, hx314_0, hx314_1, hx314_2, hx314_3, hx314_4, hx314_5, hl314_3, hi314_3, hl314_4, hi314_4, hl314_5, hi314_5⟩ := at_T64 HR1.out x5_1 oa oa
        have hw314_5 := hx314_5
        have hw314_4 := hx314_4
        have hw314_3 := hx314_3
        have hw314_2 := hx314_2
        have hw314_1 := hx314_1
        have hw314_0 := hx314_0
        cases e314
        replace hx314_0 := cB HB hx314_0
        replace hx314_1 := cB HB hx314_1
        replace hx314_2 := cB HB hx314_2
        replace hx314_3 := cB HB hx314_3
        replace hx314_4 := cB HB hx314_4
        replace hx314_5 := cB HB hx314_5
        have HR314_3 := Aside0.mk hi314_3
        have HC314_3 := Aside0.mk hl314_3
        clear hi314_3 hl314_3
        have HR314_4 := Aside0.mk hi314_4
        have HC314_4 := Aside0.mk hl314_4
        clear hi314_4 hl314_4
        have HR314_5 := Aside0.mk hi314_5
        have HC314_5 := Aside0.mk hl314_5
        clear hi314_5 hl314_5
        refine st_ 10 (fun w' => w'.cell? (ad313.add ((x5_1).toNat * 6)) = some (.int .i64 ((rd_T64 l0 x5_1).f0)) ∧ w'.cell? ⟨(ad313.add ((x5_1).toNat * 6)).block, (ad313.add ((x5_1).toNat * 6)).off + 1, none⟩ = some (.int .i64 ((rd_T64 l0 x5_1).f1)) ∧ w'.cell? ⟨(ad313.add ((x5_1).toNat * 6)).block, (ad313.add ((x5_1).toNat * 6)).off + 2, none⟩ = some (.int .i64 ((rd_T64 l0 x5_1).f2)) ∧ w'.cell? ⟨(ad313.add ((x5_1).toNat * 6)).block, (ad313.add ((x5_1).toNat * 6)).off + 3, none⟩ = some (.slice A313_3 ((rd_T64 l0 x5_1).f3).length c313_3) ∧ w'.cell? ⟨(ad313.add ((x5_1).toNat * 6)).block, (ad313.add ((x5_1).toNat * 6)).off + 4, none⟩ = some (.slice A313_4 ((rd_T64 l0 x5_1).f4).length c313_4) ∧ w'.cell? ⟨(ad313.add ((x5_1).toNat * 6)).block, (ad313.add ((x5_1).toNat * 6)).off + 5, none⟩ = some (.slice A313_5 ((rd_T64 l0 x5_1).f5).length c313_5) ∧ w'.cell? (ad314.add ((x5_1).toNat * 6)) = some (.int .i64 ((rd_T64 l1 x5_1).f0)) ∧ w'.cell? ⟨(ad314.add ((x5_1).toNat * 6)).block, (ad314.add ((x5_1).toNat * 6)).off + 1, none⟩ = some (.int .i64 ((rd_T64 l1 x5_1).f1)) ∧ w'.cell? ⟨(ad314.add ((x5_1).toNat * 6)).block, (ad314.add ((x5_1).toNat * 6)).off + 2, none⟩ = some (.int .i64 ((rd_T64 l1 x5_1).f2)) ∧ w'.cell? ⟨(ad314.add ((x5_1).toNat * 6)).block, (ad314.add ((x5_1).toNat * 6)).off + 3, none⟩ = some (.slice A314_3 ((rd_T64 l1 x5_1).f3).length c314_3) ∧ w'.cell? ⟨(ad314.add ((x5_1).toNat * 6)).block, (ad314.add ((x5_1).toNat * 6)).off + 4, none⟩ = some (.slice A314_4 ((rd_T64 l1 x5_1).f4).length c314_4) ∧ w'.cell? ⟨(ad314.add ((x5_1).toNat * 6)).block, (ad314.add ((x5_1).toNat * 6)).off + 5, none⟩ = some (.slice A314_5 ((rd_T64 l1 x5_1).f5).length c314_5)) laws_eqInodeS.tab6 laws_eqInodeS.bits6 oH (fun hHeld HT_ HW_ => ?_)
        generalize wr.drew = w11 at HB HR313_3 HR313_4 HR313_5 HR314_3 HR314_4 HR314_5 hx313_0 hx313_1 hx313_2 hx313_3 hx313_4 hx313_5 hx314_0 hx314_1 hx314_2 hx314_3 hx314_4 hx314_5 hHeld ⊢
        refine pu_ 0 17 HT_ ?_
        refine pu_ 1 18 HT_ ?_
        refine pu_ 2 19 HT_ ?_
        refine pu_ 4 21 HT_ ?_
        refine pu_ 5 22 HT_ ?_
        refine pu_ 6 23 HT_ ?_
        refine ta_ 3 20 HT_ HW_ hHeld ?_
        refine ta_ 7 24 HT_ HW_ hHeld ?_
        refine on_ 8 25 HT_ (fun K hK => ?_)
        refine gr_ 25 Tryd.func49 (laws_eqInode.calls k1 ((rd_T64 l0 x5_1).f0) ((rd_T64 l0 x5_1).f1) ((rd_T64 l0 x5_1).f2) _ _ ((rd_T64 l0 x5_1).f3) _ _ ((rd_T64 l0 x5_1).f4) _ _ ((rd_T64 l0 x5_1).f5) ((rd_T64 l1 x5_1).f0) ((rd_T64 l1 x5_1).f1) ((rd_T64 l1 x5_1).f2) _ _ ((rd_T64 l1 x5_1).f3) _ _ ((rd_T64 l1 x5_1).f4) _ _ ((rd_T64 l1 x5_1).f5) false _ (kC HR313_3) HC313_3.out (kC HR313_4) HC313_4.out (kC HR313_5) HC313_5.out (kC HR314_3) HC314_3.out (kC HR314_4) HC314_4.out (kC HR314_5) HC314_5.out A7.out) ?_
        rintro e w12 ⟨rfl, hb⟩
        refine ⟨_, rfl, ?_⟩
        replace HB := Aside0.mk (below_step oB hb)
        refine hk_ hK 25 oH (fun hHeld => ?_)
        clear hK K
        refine pu_ 9 26 HT_ ?_
        refine dn_ HT_ ?_
        try go_wp2
        go_ret
        exact ⟨oE, oB⟩
      ·cases H
     ·cases H
    ·obtain rfl := Option.some.inj H
     go_wp2
     go_ret
     exact ⟨oE, oB⟩
 ·rw [if_neg c3] at H
  have c3b0 : ((l0.length : Int) == (l1.length : Int)) = false := beq_eq_false_iff_ne.mpr c3
  have c3b1 : ((l0.length : Int) != (l1.length : Int)) = true := bne_iff_ne.mpr c3
  have c3b2 : (l0.length == l1.length) = false := by first | simpa using c3 | (simp at c3 ⊢; omega)
  obtain rfl := Option.some.inj H
  go_enter Tryd.func69, Tryd.ntmps69
  go_wp2
  go_ret
  exact ⟨oE, oB⟩

/-! ### laws_eqTab: function 36 -/
def laws_eqTab.f (k : Nat) (l0_0 : List (S64)) (a0_1 : Int) (l1_0 : List (S64)) (a1_1 : Int) : Option (Bool) := (laws_eqInodeS.f k l0_0 l1_0).bind fun t318 => (if t318 = true then (if a0_1 = a1_1 then (some true) else (some false)) else (some false))
set_option maxHeartbeats 8000000 in
set_option maxRecDepth 100000 in
theorem laws_eqTab.calls (k : Nat) (A0_0 : Option Addr) (c0_0 : Nat) (l0_0 : List (S64)) (a0_1 : Int) (A1_0 : Option Addr) (c1_0 : Nat) (l1_0 : List (S64)) (a1_1 : Int) (r : Bool) (w : World) (hr0_0 : Kd.C k64 w A0_0 l0_0.length l0_0) (hc0_0 : l0_0.length ≤ c0_0) (hr1_0 : Kd.C k64 w A1_0 l1_0.length l1_0) (hc1_0 : l1_0.length ≤ c1_0) (h : laws_eqTab.f k l0_0 a0_1 l1_0 a1_1 = some r) :
  Calls Tryd.prog 36 #[.agg #[.slice A0_0 l0_0.length c0_0, .int .i64 a0_1], .agg #[.slice A1_0 l1_0.length c1_0, .int .i64 a1_1]] w fun e w' => e = .returned (.bool r) ∧ Below w.heap.size w w' := by
 have hu46 := Tryd.underlying46
 have HR0_0 := Aside0.mk hr0_0
 have HC0_0 := Aside0.mk hc0_0
 clear hr0_0 hc0_0
 have HR1_0 := Aside0.mk hr1_0
 have HC1_0 := Aside0.mk hc1_0
 clear hr1_0 hc1_0
 have HB := Aside0.mk (Below.refl w.heap.size w)
 unfold laws_eqTab.f at h
 have H := h
 clear h
 replace H := bA H
 obtain ⟨t318, A3, H⟩ := H
 try dsimp only at H
 replace H := itB H
 rcases H with ⟨rfl, H⟩ | ⟨rfl, H⟩
 ·by_cases c5 : a0_1 = a1_1
  ·rw [if_pos c5] at H
   have c5b0 : (a0_1 == a1_1) = true := beq_iff_eq.mpr c5
   have c5b1 : (a0_1 != a1_1) = false := bne_eq_false_iff_eq.mpr c5
   clear c5
   obtain rfl := Option.some.inj H
   go_enter Tryd.func36, Tryd.ntmps36
   go_wp2_with (first | ((with_reducible refine gate_dst (N := 2) rfl ?_); refine bx_ 2 #[.slice A0_0 l0_0.length c0_0, .int .i64 a0_1] 46 ?_; intro gb316 hg w6 hbox hb; have BK316 := Aside0.mk (hbox); have GW316 := gs_ hg; have GE316 := gs_ hg; replace HB := Aside0.mk (below_step oB hb); clear hb hbox hg) | ((with_reducible refine gate_dst (N := 3) rfl ?_); refine bx_ 3 #[.slice A1_0 l1_0.length c1_0, .int .i64 a1_1] 46 ?_; intro gb317 hg w7 hbox hb; have BK317 := Aside0.mk (hbox); have GW317 := gs_ hg; have GE317 := gs_ hg; have NB316_317 := nl_ hg BK316; have NB317_316 := nr_ hg BK316; replace BK316 := kb_ BK316 hb; replace HB := Aside0.mk (below_step oB hb); clear hb hbox hg; have hnb8 := NB316_317.out; have hnc8 := NB317_316.out; obtain ⟨⟨_, _⟩, _, _⟩ := z2 BK316; obtain ⟨⟨_, _⟩, _, _⟩ := z2 BK317) | ((with_reducible refine gate_callee (f := 69) rfl ?_); refine gl_ 9 Tryd.func69 (laws_eqInodeS.calls k _ _ l0_0 _ _ l1_0 true _ (kC HR0_0) HC0_0.out (kC HR1_0) HC1_0.out A3.out) ?_; rintro e w11 ⟨rfl, hb⟩; refine ⟨_, rfl, ?_⟩; replace BK316 := kb_ BK316 hb; replace BK317 := kb_ BK317 hb; replace HB := Aside0.mk (below_step oB hb); obtain ⟨⟨_, _⟩, _, _⟩ := z2 BK316; obtain ⟨⟨_, _⟩, _, _⟩ := z2 BK317))
   go_ret
   exact ⟨oE, oB⟩
  ·rw [if_neg c5] at H
   have c5b0 : (a0_1 == a1_1) = false := beq_eq_false_iff_ne.mpr c5
   have c5b1 : (a0_1 != a1_1) = true := bne_iff_ne.mpr c5
   obtain rfl := Option.some.inj H
   go_enter Tryd.func36, Tryd.ntmps36
   go_wp2_with (first | ((with_reducible refine gate_dst (N := 2) rfl ?_); refine bx_ 2 #[.slice A0_0 l0_0.length c0_0, .int .i64 a0_1] 46 ?_; intro gb316 hg w14 hbox hb; have BK316 := Aside0.mk (hbox); have GW316 := gs_ hg; have GE316 := gs_ hg; replace HB := Aside0.mk (below_step oB hb); clear hb hbox hg) | ((with_reducible refine gate_dst (N := 3) rfl ?_); refine bx_ 3 #[.slice A1_0 l1_0.length c1_0, .int .i64 a1_1] 46 ?_; intro gb317 hg w15 hbox hb; have BK317 := Aside0.mk (hbox); have GW317 := gs_ hg; have GE317 := gs_ hg; have NB316_317 := nl_ hg BK316; have NB317_316 := nr_ hg BK316; replace BK316 := kb_ BK316 hb; replace HB := Aside0.mk (below_step oB hb); clear hb hbox hg; have hnb16 := NB316_317.out; have hnc16 := NB317_316.out; obtain ⟨⟨_, _⟩, _, _⟩ := z2 BK316; obtain ⟨⟨_, _⟩, _, _⟩ := z2 BK317) | ((with_reducible refine gate_callee (f := 69) rfl ?_); refine gl_ 9 Tryd.func69 (laws_eqInodeS.calls k _ _ l0_0 _ _ l1_0 true _ (kC HR0_0) HC0_0.out (kC HR1_0) HC1_0.out A3.out) ?_; rintro e w19 ⟨rfl, hb⟩; refine ⟨_, rfl, ?_⟩; replace BK316 := kb_ BK316 hb; replace BK317 := kb_ BK317 hb; replace HB := Aside0.mk (below_step oB hb); obtain ⟨⟨_, _⟩, _, _⟩ := z2 BK316; obtain ⟨⟨_, _⟩, _, _⟩ := z2 BK317))
   go_ret
   exact ⟨oE, oB⟩
 ·obtain rfl := Option.some.inj H
  go_enter Tryd.func36, Tryd.ntmps36
  go_wp2_with (first | ((with_reducible refine gate_dst (N := 2) rfl ?_); refine bx_ 2 #[.slice A0_0 l0_0.length c0_0, .int .i64 a0_1] 46 ?_; intro gb316 hg w22 hbox hb; have BK316 := Aside0.mk (hbox); have GW316 := gs_ hg; have GE316 := gs_ hg; replace HB := Aside0.mk (below_step oB hb); clear hb hbox hg) | ((with_reducible refine gate_dst (N := 3) rfl ?_); refine bx_ 3 #[.slice A1_0 l1_0.length c1_0, .int .i64 a1_1] 46 ?_; intro gb317 hg w23 hbox hb; have BK317 := Aside0.mk (hbox); have GW317 := gs_ hg; have GE317 := gs_ hg; have NB316_317 := nl_ hg BK316; have NB317_316 := nr_ hg BK316; replace BK316 := kb_ BK316 hb; replace HB := Aside0.mk (below_step oB hb); clear hb hbox hg; have hnb24 := NB316_317.out; have hnc24 := NB317_316.out; obtain ⟨⟨_, _⟩, _, _⟩ := z2 BK316; obtain ⟨⟨_, _⟩, _, _⟩ := z2 BK317) | ((with_reducible refine gate_callee (f := 69) rfl ?_); refine gl_ 9 Tryd.func69 (laws_eqInodeS.calls k _ _ l0_0 _ _ l1_0 false _ (kC HR0_0) HC0_0.out (kC HR1_0) HC1_0.out A3.out) ?_; rintro e w27 ⟨rfl, hb⟩; refine ⟨_, rfl, ?_⟩; replace BK316 := kb_ BK316 hb; replace BK317 := kb_ BK317 hb; replace HB := Aside0.mk (below_step oB hb)))
  go_ret
  exact ⟨oE, oB⟩

/-! ### laws_FnExactWalk: function 9 -/
def laws_FnExactWalk.j0 : Nat → Bool → List (S115) → Int → List (S64) → Int → Option (Bool)
 | 0, _, _, _, _, _ => none
 | k + 1, x41, x320000, x320001, x332000, x332001 => if x41 = true then (some false) else ((laws_toTab.f k x320000 x320001).bind fun bt334 => ((laws_eqTab.f k x332000 x332001 bt334.1 bt334.2).bind fun t338 => (if t338 = true then (some true) else (some false))))
def laws_FnExactWalk.f (k : Nat) (l0_0 : List (S115)) (a0_1 : Int) (a1 : ByteArray) : Option (Bool) := if (a1.size : Int) > 1048576 then (some true) else ((laws_szTab.f k l0_0 a0_1 1048576).bind fun t320 => (if t320 < 0 then (some true) else ((laws_toTab.f k l0_0 a0_1).bind fun bt321 => ((spec_Walk.f k bt321.1 bt321.2 a1).bind fun bt325 => ((laws_toTab.f k l0_0 a0_1).bind fun bt327 => ((impl_Walk.f k bt327.1 bt327.2 a1).bind fun bt332 => (if bt332.1 = bt325.1 then (laws_FnExactWalk.j0 k (bt332.2 != bt325.2) l0_0 a0_1 bt327.1 bt327.2) else (laws_FnExactWalk.j0 k true l0_0 a0_1 bt327.1 bt327.2))))))))
set_option maxHeartbeats 8000000 in
set_option maxRecDepth 100000 in
theorem laws_FnExactWalk.calls (k : Nat) (A0_0 : Option Addr) (c0_0 : Nat) (l0_0 : List (S115)) (a0_1 : Int) (a1 : ByteArray) (r : Bool) (w : World) (hr0_0 : Kd.C k115 w A0_0 l0_0.length l0_0) (hc0_0 : l0_0.length ≤ c0_0) (h : laws_FnExactWalk.f k l0_0 a0_1 a1 = some r) (hG : GOk w := by exact gk_ oB (by first | (with_reducible assumption) | assumption)) :
  Calls Tryd.prog 9 #[.agg #[.slice A0_0 l0_0.length c0_0, .int .i64 a0_1], .string a1] w fun e w' => e = .returned (.bool r) ∧ Below w.heap.size w w' := by
 have HG := Aside0.mk hG
 clear hG
 have hu40 := Tryd.underlying40
 have hu46 := Tryd.underlying46
 have HR0_0 := Aside0.mk hr0_0
 have HC0_0 := Aside0.mk hc0_0
 clear hr0_0 hc0_0
 have HB := Aside0.mk (Below.refl w.heap.size w)
 unfold laws_FnExactWalk.f at h
 have H := h
 clear h
 by_cases c3 : (a1.size : Int) > 1048576
 ·rw [if_pos c3] at H
  have c3b0 : decide (1048576 < (a1.size : Int)) = true := decide_eq_true c3
  have c3b1 : decide (1048576 < a1.size) = true := decide_eq_true (by omega)
  clear c3
  obtain rfl := Option.some.inj H
  go_enter Tryd.func9, Tryd.ntmps9
  go_wp2_with (first | ((with_reducible refine gate_dst (N := 2) rfl ?_); refine bx_ 2 #[.slice A0_0 l0_0.length c0_0, .int .i64 a0_1] 40 ?_; intro gb319 hg w4 hbox hb; have BK319 := Aside0.mk (hbox); have GW319 := gs_ hg; have GE319 := gs_ hg; replace HB := Aside0.mk (below_step oB hb); clear hb hbox hg))
  go_ret
  exact ⟨oE, oB⟩
 ·rw [if_neg c3] at H
  have c3b0 : decide (1048576 < (a1.size : Int)) = false := decide_eq_false c3
  have c3b1 : decide (1048576 < a1.size) = false := decide_eq_false (by omega)
  clear c3
  replace H := bA H
  obtain ⟨t320, A5, H⟩ := H
  try dsimp only at H
  replace H := itD H
  rcases H with ⟨c6b0, H⟩ | ⟨c6b0, H⟩
  ·obtain rfl := Option.some.inj H
   go_enter Tryd.func9, Tryd.ntmps9
   go_wp2_with (first | ((with_reducible refine gate_dst (N := 2) rfl ?_); refine bx_ 2 #[.slice A0_0 l0_0.length c0_0, .int .i64 a0_1] 40 ?_; intro gb319 hg w7 hbox hb; have BK319 := Aside0.mk (hbox); have GW319 := gs_ hg; have GE319 := gs_ hg; replace HB := Aside0.mk (below_step oB hb); clear hb hbox hg; obtain ⟨⟨_, _⟩, _, _⟩ := z2 BK319) | ((with_reducible refine gate_callee (f := 32) rfl ?_); refine gl_ 16 Tryd.func32 (laws_szTab.calls k _ _ l0_0 a0_1 1048576 t320 _ (kC HR0_0) HC0_0.out A5.out) ?_; rintro e w9 ⟨rfl, hb⟩; refine ⟨_, rfl, ?_⟩; replace BK319 := kb_ BK319 hb; replace HB := Aside0.mk (below_step oB hb)))
   go_ret
   exact ⟨oE, oB⟩
  ·replace H := bA H
   obtain ⟨⟨t321, t324⟩, A10, H⟩ := H
   try dsimp only at H
   replace H := bA H
   obtain ⟨⟨t325, t326⟩, A11, H⟩ := H
   try dsimp only at H
   replace H := bA H
   obtain ⟨⟨t327, t330⟩, A12, H⟩ := H
   try dsimp only at H
   replace H := bA H
   obtain ⟨⟨t332, t333⟩, A13, H⟩ := H
   try dsimp only at H
   have HC14 := Aside0.mk H
   clear H
   go_enter Tryd.func9, Tryd.ntmps9
   go_upto_region 10 with (first | ((with_reducible refine gate_dst (N := 2) rfl ?_); refine bx_ 2 #[.slice A0_0 l0_0.length c0_0, .int .i64 a0_1] 40 ?_; intro gb319 hg w15 hbox hb; have BK319 := Aside0.mk (hbox); have GW319 := gs_ hg; have GE319 := gs_ hg; replace HB := Aside0.mk (below_step oB hb); clear hb hbox hg; obtain ⟨⟨_, _⟩, _, _⟩ := z2 BK319) | ((with_reducible refine gate_callee (f := 32) rfl ?_); refine gl_ 16 Tryd.func32 (laws_szTab.calls k _ _ l0_0 a0_1 1048576 t320 _ (kC HR0_0) HC0_0.out A5.out) ?_; rintro e w17 ⟨rfl, hb⟩; refine ⟨_, rfl, ?_⟩; replace BK319 := kb_ BK319 hb; replace HB := Aside0.mk (below_step oB hb); obtain ⟨⟨_, _⟩, _, _⟩ := z2 BK319) | ((with_reducible refine gate_callee (f := 34) rfl ?_); refine gl_ 21 Tryd.func34 (laws_toTab.calls k _ _ l0_0 a0_1 t321 t324 _ (kC HR0_0) HC0_0.out A10.out) ?_; rintro e w19 ⟨v322, rfl, ho0, hb⟩; refine ⟨_, rfl, ?_⟩; have HO323 := Aside0.mk (Kd.S_lower ho0 (below_size oB)); replace BK319 := kb_ BK319 hb; replace HB := Aside0.mk (below_step oB hb); obtain ⟨Ao20, co20, eo20⟩ := Kd.S_slice HO323.out; subst eo20) | ((with_reducible refine gate_callee (f := 33) rfl ?_); refine gl_ 23 Tryd.func33 (spec_Walk.calls k _ _ t321 t324 a1 t325 t326 _ ?side1 ?side2 A11.out) ?_; (case side1 => repeat (first | exact (Kd.S_reads' HO323.out).2.2 | (with_reducible refine Kd.C_alloc ?_ _) | (with_reducible refine Kd.C_drewN ?_ _) | (with_reducible refine Kd.C_drew ?_))); (case side2 => exact (Kd.S_reads' HO323.out).2.1); rintro e w21 ⟨rfl, hb⟩; refine ⟨_, rfl, ?_⟩; replace HO323 := Aside0.mk (Kd.S_below (by (with_reducible repeat (first | apply Kd.S_alloc | apply Kd.S_drewN | apply Kd.S_drew)); exact HO323.out) hb); replace BK319 := kb_ BK319 hb; replace HB := Aside0.mk (below_step oB hb); obtain ⟨⟨_, _⟩, _, _⟩ := z2 BK319) | ((with_reducible refine gate_callee (f := 34) rfl ?_); refine gl_ 27 Tryd.func34 (laws_toTab.calls k _ _ l0_0 a0_1 t327 t330 _ (kC HR0_0) HC0_0.out A12.out) ?_; rintro e w23 ⟨v328, rfl, ho0, hb⟩; refine ⟨_, rfl, ?_⟩; have HO329 := Aside0.mk (Kd.S_lower (Kd.S_new' ho0 (Kd.S_lt (by (with_reducible repeat (first | apply Kd.S_alloc | apply Kd.S_drewN | apply Kd.S_drew)); exact HO323.out))) (below_size oB)); replace HO323 := Aside0.mk (Kd.S_elder' (by (with_reducible repeat (first | apply Kd.S_alloc | apply Kd.S_drewN | apply Kd.S_drew)); exact HO323.out) (Kd.S_base ho0) hb); replace BK319 := kb_ BK319 hb; replace HB := Aside0.mk (below_step oB hb)) | ((with_reducible refine gate_dst (N := 8) rfl ?_); refine bx_ 8 #[.slice none 0 0, .int .i64 0] 46 ?_; intro gb331 hg w24 hbox hb; have BK331 := Aside0.mk (hbox); have GW331 := gs_ hg; have GE331 := gs_ hg; have NB319_331 := nl_ hg BK319; have NB331_319 := nr_ hg BK319; replace HO323 := Aside0.mk (Kd.S_below (by (with_reducible repeat (first | apply Kd.S_alloc | apply Kd.S_drewN | apply Kd.S_drew)); exact HO323.out) hb); replace HO329 := Aside0.mk (Kd.S_below (by (with_reducible repeat (first | apply Kd.S_alloc | apply Kd.S_drewN | apply Kd.S_drew)); exact HO329.out) hb); replace BK319 := kb_ BK319 hb; replace HB := Aside0.mk (below_step oB hb); clear hb hbox hg; obtain ⟨Ao25, co25, eo25⟩ := Kd.S_slice HO329.out; subst eo25; have hnb26 := NB331_319.out; have hnc26 := NB319_331.out; obtain ⟨⟨_, _⟩, _, _⟩ := z2 BK331) | ((with_reducible refine gate_callee (f := 35) rfl ?_); refine gl_ 31 Tryd.func35 (impl_Walk.calls k _ _ t327 t330 a1 t332 t333 _ ?side1 ?side2 A13.out) ?_; (case side1 => refine (Kd.S_reads' (e := 64) (base := w.heap.size) (ok := fun k_ => (True ∧ some k_ ≠ (.slice Ao20 t321.length co20 : Value).ownBlock)) (n := t327.length) (c := co25) ?_).2.2; exact (by (with_reducible repeat (first | apply Kd.S_alloc | apply Kd.S_drewN | apply Kd.S_drew)); exact (Kd.S_mono (Kd.S_far (p := ⟨gb331, 1, none⟩) (Kd.S_far (p := ⟨gb331, 0, none⟩) (Kd.S_types HO329.out BK331.out (by decide)) (fun _ hk => hk.2) (.slice Ao25 t327.length co25)) (fun _ hk => hk.2) (.int .i64 t330)) (fun _ h_ => h_.1)))); (case side2 => exact (Kd.S_reads' HO329.out).2.1); rintro e w28 ⟨rfl, hb⟩; refine ⟨_, rfl, ?_⟩; replace HO323 := Aside0.mk (Kd.S_below (by (with_reducible repeat (first | apply Kd.S_alloc | apply Kd.S_drewN | apply Kd.S_drew)); exact (Kd.S_mono (Kd.S_far (p := ⟨gb331, 1, none⟩) (Kd.S_far (p := ⟨gb331, 0, none⟩) (Kd.S_types HO323.out BK331.out (by decide)) (fun _ hk => hk.2) (.slice Ao25 t327.length co25)) (fun _ hk => hk.2) (.int .i64 t330)) (fun _ h_ => h_.1))) hb); replace HO329 := Aside0.mk (Kd.S_below (by (with_reducible repeat (first | apply Kd.S_alloc | apply Kd.S_drewN | apply Kd.S_drew)); exact (Kd.S_mono (Kd.S_far (p := ⟨gb331, 1, none⟩) (Kd.S_far (p := ⟨gb331, 0, none⟩) (Kd.S_types HO329.out BK331.out (by decide)) (fun _ hk => hk.2) (.slice Ao25 t327.length co25)) (fun _ hk => hk.2) (.int .i64 t330)) (fun _ h_ => h_.1))) hb); replace BK319 := Aside0.mk (blk_below (g := gb319) (o := .cells #[.slice A0_0 l0_0.length c0_0, .int .i64 a0_1] 40 (0, 0)) (by (with_reducible repeat (first | refine blk_drewN ?_ _ | refine blk_drew ?_ | refine blk_alloc ?_ _)); refine blk_far ?_ NB319_331.out _; (with_reducible repeat (first | refine blk_drewN ?_ _ | refine blk_drew ?_ | refine blk_alloc ?_ _)); refine blk_far ?_ NB319_331.out _; (with_reducible repeat (first | refine blk_drewN ?_ _ | refine blk_drew ?_ | refine blk_alloc ?_ _)); exact BK319.out) hb); replace BK331 := Aside0.mk (blk_below (g := gb331) (o := .cells #[.slice Ao25 t327.length co25, .int .i64 t330] 46 (0, 0)) (by (with_reducible repeat (first | refine blk_drewN ?_ _ | refine blk_drew ?_ | refine blk_alloc ?_ _)); refine blk_put (cs := #[.slice Ao25 t327.length co25, .int .i64 0]) ?_ 1 _ rfl; (with_reducible repeat (first | refine blk_drewN ?_ _ | refine blk_drew ?_ | refine blk_alloc ?_ _)); refine blk_put (cs := #[.slice none 0 0, .int .i64 0]) ?_ 0 _ rfl; (with_reducible repeat (first | refine blk_drewN ?_ _ | refine blk_drew ?_ | refine blk_alloc ?_ _)); exact BK331.out) hb); replace HB := Aside0.mk (below_step oB hb); (try clear hk)))
   (try simp only [Act.put, List.setIfInBounds_toArray, List.set_cons_zero, List.set_cons_succ])
   go_cut [41] (fun v41 wc => ∃ (kq : Nat) (x41_13 : Bool), v41 = .bool x41_13 ∧ Aside0 (laws_FnExactWalk.j0 kq x41_13 l0_0 a0_1 t327 t330 = some r) ∧ Aside0 (kq ≤ k) ∧ Aside0 (Kd.S k64 64 wc w.heap.size (fun _ => True) (.slice Ao25 t327.length co25) t327) ∧ Aside0 (wc.heap[gb319]? = some (.cells #[(.slice A0_0 l0_0.length c0_0), .int .i64 a0_1] 40 (0, 0))) ∧ Aside0 (wc.heap[gb331]? = some (.cells #[(.slice Ao25 t327.length co25), .int .i64 t330] 46 (0, 0))) ∧ Aside0 (Below w.heap.size w wc))
   case first =>
    have H := HC14.out
    clear HC14
    by_cases c29 : t332 = t325
    ·rw [if_pos c29] at H
     have c29b0 : (t332 == t325) = true := beq_iff_eq.mpr c29
     have c29b1 : (t332 != t325) = false := bne_eq_false_iff_eq.mpr c29
     clear c29
     (first | rw [c29b0] | rw [c29b2] | (simp only [i64_w, i32_w]; rw [c29b0]) | skip)
     have H' := Aside0.mk H
     clear H
     go_wp2
     go_meet
     case rel => exact ⟨_, ((t333 != t326)), oS, H', ⟨by first | omega | exact Nat.le_refl _⟩, ⟨by (with_reducible repeat (first | apply Kd.S_alloc | apply Kd.S_drewN | apply Kd.S_drew)); exact Kd.S_mono HO329.out (fun _ hk => trivial)⟩, ⟨oF BK319⟩, ⟨oF BK331⟩, ⟨oB⟩⟩
    ·rw [if_neg c29] at H
     have c29b0 : (t332 == t325) = false := beq_eq_false_iff_ne.mpr c29
     have c29b1 : (t332 != t325) = true := bne_iff_ne.mpr c29
     (first | rw [c29b0] | rw [c29b2] | (simp only [i64_w, i32_w]; rw [c29b0]) | skip)
     have H' := Aside0.mk H
     clear H
     go_wp2
     go_meet
     case rel => exact ⟨_, (true), oS, H', ⟨by first | omega | exact Nat.le_refl _⟩, ⟨by (with_reducible repeat (first | apply Kd.S_alloc | apply Kd.S_drewN | apply Kd.S_drew)); exact Kd.S_mono HO329.out (fun _ hk => trivial)⟩, ⟨oF BK319⟩, ⟨oF BK331⟩, ⟨oB⟩⟩
   case rest =>
    clear HC14
    try clear c3
    try clear c3b0
    try clear c3b1
    try clear c6b0
    obtain ⟨kq, x41_13, rfl, HA, HJ13, HO_332000, BK319, BK331, HB⟩ := hcut
    cases kq with
    | zero => exact absurd HA.out (by simp [laws_FnExactWalk.j0])
    | succ kj13 =>
     have H := HA.out
     clear HA
     simp only [laws_FnExactWalk.j0] at H
     replace H := itB H
     rcases H with ⟨rfl, H⟩ | ⟨rfl, H⟩
     ·obtain rfl := Option.some.inj H
      go_wp2
      go_ret
      exact ⟨oE, oB⟩
     ·replace H := bA H
      obtain ⟨⟨t334, t337⟩, A31, H⟩ := H
      try dsimp only at H
      replace H := bA H
      obtain ⟨t338, A32, H⟩ := H
      try dsimp only at H
      replace H := itB H
      rcases H with ⟨rfl, H⟩ | ⟨rfl, H⟩
      ·obtain rfl := Option.some.inj H
       try go_wp2
       replace HO_332000 := Aside0.mk (Kd.S_drew HO_332000.out)
       replace BK319 := Aside0.mk (blk_drew BK319.out)
       replace BK331 := Aside0.mk (blk_drew BK331.out)
       replace HB := Aside0.mk (below_drew1 HB.out)
       refine start_ (n := 5) (S := fun w' => w'.cell? ⟨gb331, 0, none⟩ = some (.slice Ao25 t327.length co25) ∧ w'.cell? ⟨gb331, 1, none⟩ = some (.int .i64 t330) ∧ w'.cell? ⟨gb319, 0, none⟩ = some (.slice A0_0 l0_0.length c0_0) ∧ w'.cell? ⟨gb319, 1, none⟩ = some (.int .i64 a0_1)) (ds := []) #[false, false, false, false, false] (by kernel_rfl) rfl rfl oH (fun hHeld => ?_)
       generalize wc.drew = w34 at HO_332000 BK319 BK331 HB hHeld ⊢
       refine take_ (i := 0) (N := some 42) (v := ?_) (a' := ?_) #[true, false, false, false, false] rfl rfl (by kernel_rfl) (fun _ _ _ h => h) (Or.inl ⟨by rfl, ?_⟩) hHeld ?_ ?_
       rotate_left
       ·rintro w' ⟨s0, s1, s2, s3⟩
        go_simp
        with_reducible rfl
       rotate_left
       ·simp only [Act.put, List.setIfInBounds_toArray, List.set_cons_zero, List.set_cons_succ, i64_w, i32_w]
        rfl
       refine take_ (i := 1) (N := some 43) (v := ?_) (a' := ?_) #[true, true, false, false, false] rfl rfl (by kernel_rfl) (fun _ _ _ h => h) (Or.inl ⟨by rfl, ?_⟩) hHeld ?_ ?_
       rotate_left
       ·rintro w' ⟨s0, s1, s2, s3⟩
        go_simp
        with_reducible rfl
       rotate_left
       ·simp only [Act.put, List.setIfInBounds_toArray, List.set_cons_zero, List.set_cons_succ, i64_w, i32_w]
        rfl
       refine one_ (i := 2) (N := some 44) #[true, true, true, false, false] rfl rfl (by kernel_rfl) (by decide) (fun K hK => ?_)
       refine gr_ 44 Tryd.func34 (laws_toTab.calls kj13 _ _ l0_0 a0_1 t334 t337 _ (kC HR0_0) HC0_0.out A31.out) ?_
       rintro e w35 ⟨v335, rfl, ho0, hb⟩
       refine ⟨_, rfl, ?_⟩
       have HO336 := Aside0.mk (Kd.S_lower (Kd.S_new' ho0 (Kd.S_lt (by (with_reducible repeat (first | apply Kd.S_alloc | apply Kd.S_drewN | apply Kd.S_drew)); exact HO_332000.out))) (below_size oB))
       replace HO_332000 := Aside0.mk (Kd.S_elder' (by (with_reducible repeat (first | apply Kd.S_alloc | apply Kd.S_drewN | apply Kd.S_drew)); exact HO_332000.out) (Kd.S_base ho0) hb)
       replace BK319 := kb_ BK319 hb
       replace BK331 := kb_ BK331 hb
       replace HB := Aside0.mk (below_step oB hb)
       obtain ⟨Ao36, co36, eo36⟩ := Kd.S_slice HO336.out
       (first | subst eo36 | (injection eo36 with f1_ f2_ f3_; have f4_ := f1_.symm; have f5_ := f3_.symm; clear f1_ f2_ f3_; subst f4_; subst f5_))
       refine hK.out _ _ oH (fun hHeld => ?_)
       clear hK K
       refine norm_ (a' := ?_) ?_ ?_
       rotate_left
       ·show Act.put _ (some 44) _ = _
        simp only [Act.put, List.setIfInBounds_toArray, List.set_cons_zero, List.set_cons_succ, i64_w, i32_w]
        rfl
       refine one_ (i := 3) (N := some 45) #[true, true, true, true, false] rfl rfl (by kernel_rfl) (by decide) (fun K hK => ?_)
       refine gr_ 45 Tryd.func36 (laws_eqTab.calls kj13 _ _ t327 t330 _ _ t334 t337 true _ ?side1 ?side2 ?side3 ?side4 A32.out) ?_
       (case side1 => repeat (first | exact (Kd.S_reads' HO_332000.out).2.2 | (with_reducible refine Kd.C_alloc ?_ _) | (with_reducible refine Kd.C_drewN ?_ _) | (with_reducible refine Kd.C_drew ?_)))
       (case side2 => exact (Kd.S_reads' HO_332000.out).2.1)
       (case side3 => repeat (first | exact (Kd.S_reads' HO336.out).2.2 | (with_reducible refine Kd.C_alloc ?_ _) | (with_reducible refine Kd.C_drewN ?_ _) | (with_reducible refine Kd.C_drew ?_)))
       (case side4 => exact (Kd.S_reads' HO336.out).2.1)
       rintro e w37 ⟨rfl, hb⟩
       refine ⟨_, rfl, ?_⟩
       replace HO_332000 := Aside0.mk (Kd.S_below (by (with_reducible repeat (first | apply Kd.S_alloc | apply Kd.S_drewN | apply Kd.S_drew)); exact HO_332000.out) hb)
       replace HO336 := Aside0.mk (Kd.S_below (by (with_reducible repeat (first | apply Kd.S_alloc | apply Kd.S_drewN | apply Kd.S_drew)); exact HO336.out) hb)
       replace BK319 := kb_ BK319 hb
       replace BK331 := kb_ BK331 hb
       replace HB := Aside0.mk (below_step oB hb)
       refine hK.out _ _ oH (fun hHeld => ?_)
       clear hK K
       refine norm_ (a' := ?_) ?_ ?_
       rotate_left
       ·show Act.put _ (some 45) _ = _
        simp only [Act.put, List.setIfInBounds_toArray, List.set_cons_zero, List.set_cons_succ, i64_w, i32_w]
        rfl
       refine pure_ (i := 4) (N := some 46) (v := ?_) (a' := ?_) #[true, true, true, true, true] rfl rfl (by kernel_rfl) (fun _ _ _ h => h) (Or.inl ⟨by rfl, ?_⟩) ?_ ?_
       rotate_left
       ·intro w'
        go_simp
        with_reducible rfl
       rotate_left
       ·simp only [Act.put, List.setIfInBounds_toArray, List.set_cons_zero, List.set_cons_succ, i64_w, i32_w]
        rfl
       refine done_ (by kernel_rfl) ?_
       try go_wp2
       go_ret
       exact ⟨oE, oB⟩
      ·obtain rfl := Option.some.inj H
       try go_wp2
       replace HO_332000 := Aside0.mk (Kd.S_drew HO_332000.out)
       replace BK319 := Aside0.mk (blk_drew BK319.out)
       replace BK331 := Aside0.mk (blk_drew BK331.out)
       replace HB := Aside0.mk (below_drew1 HB.out)
       refine start_ (n := 5) (S := fun w' => w'.cell? ⟨gb331, 0, none⟩ = some (.slice Ao25 t327.length co25) ∧ w'.cell? ⟨gb331, 1, none⟩ = some (.int .i64 t330) ∧ w'.cell? ⟨gb319, 0, none⟩ = some (.slice A0_0 l0_0.length c0_0) ∧ w'.cell? ⟨gb319, 1, none⟩ = some (.int .i64 a0_1)) (ds := []) #[false, false, false, false, false] (by kernel_rfl) rfl rfl oH (fun hHeld => ?_)
       generalize wc.drew = w38 at HO_332000 BK319 BK331 HB hHeld ⊢
       refine take_ (i := 0) (N := some 42) (v := ?_) (a' := ?_) #[true, false, false, false, false] rfl rfl (by kernel_rfl) (fun _ _ _ h => h) (Or.inl ⟨by rfl, ?_⟩) hHeld ?_ ?_
       rotate_left
       ·rintro w' ⟨s0, s1, s2, s3⟩
        go_simp
        with_reducible rfl
       rotate_left
       ·simp only [Act.put, List.setIfInBounds_toArray, List.set_cons_zero, List.set_cons_succ, i64_w, i32_w]
        rfl
       refine take_ (i := 1) (N := some 43) (v := ?_) (a' := ?_) #[true, true, false, false, false] rfl rfl (by kernel_rfl) (fun _ _ _ h => h) (Or.inl ⟨by rfl, ?_⟩) hHeld ?_ ?_
       rotate_left
       ·rintro w' ⟨s0, s1, s2, s3⟩
        go_simp
        with_reducible rfl
       rotate_left
       ·simp only [Act.put, List.setIfInBounds_toArray, List.set_cons_zero, List.set_cons_succ, i64_w, i32_w]
        rfl
       refine one_ (i := 2) (N := some 44) #[true, true, true, false, false] rfl rfl (by kernel_rfl) (by decide) (fun K hK => ?_)
       refine gr_ 44 Tryd.func34 (laws_toTab.calls kj13 _ _ l0_0 a0_1 t334 t337 _ (kC HR0_0) HC0_0.out A31.out) ?_
       rintro e w39 ⟨v335, rfl, ho0, hb⟩
       refine ⟨_, rfl, ?_⟩
       have HO336 := Aside0.mk (Kd.S_lower (Kd.S_new' ho0 (Kd.S_lt (by (with_reducible repeat (first | apply Kd.S_alloc | apply Kd.S_drewN | apply Kd.S_drew)); exact HO_332000.out))) (below_size oB))
       replace HO_332000 := Aside0.mk (Kd.S_elder' (by (with_reducible repeat (first | apply Kd.S_alloc | apply Kd.S_drewN | apply Kd.S_drew)); exact HO_332000.out) (Kd.S_base ho0) hb)
       replace BK319 := kb_ BK319 hb
       replace BK331 := kb_ BK331 hb
       replace HB := Aside0.mk (below_step oB hb)
       obtain ⟨Ao40, co40, eo40⟩ := Kd.S_slice HO336.out
       (first | subst eo40 | (injection eo40 with f1_ f2_ f3_; have f4_ := f1_.symm; have f5_ := f3_.symm; clear f1_ f2_ f3_; subst f4_; subst f5_))
       refine hK.out _ _ oH (fun hHeld => ?_)
       clear hK K
       refine norm_ (a' := ?_) ?_ ?_
       rotate_left
       ·show Act.put _ (some 44) _ = _
        simp only [Act.put, List.setIfInBounds_toArray, List.set_cons_zero, List.set_cons_succ, i64_w, i32_w]
        rfl
       refine one_ (i := 3) (N := some 45) #[true, true, true, true, false] rfl rfl (by kernel_rfl) (by decide) (fun K hK => ?_)
       refine gr_ 45 Tryd.func36 (laws_eqTab.calls kj13 _ _ t327 t330 _ _ t334 t337 false _ ?side1 ?side2 ?side3 ?side4 A32.out) ?_
       (case side1 => repeat (first | exact (Kd.S_reads' HO_332000.out).2.2 | (with_reducible refine Kd.C_alloc ?_ _) | (with_reducible refine Kd.C_drewN ?_ _) | (with_reducible refine Kd.C_drew ?_)))
       (case side2 => exact (Kd.S_reads' HO_332000.out).2.1)
       (case side3 => repeat (first | exact (Kd.S_reads' HO336.out).2.2 | (with_reducible refine Kd.C_alloc ?_ _) | (with_reducible refine Kd.C_drewN ?_ _) | (with_reducible refine Kd.C_drew ?_)))
       (case side4 => exact (Kd.S_reads' HO336.out).2.1)
       rintro e w41 ⟨rfl, hb⟩
       refine ⟨_, rfl, ?_⟩
       replace HO_332000 := Aside0.mk (Kd.S_below (by (with_reducible repeat (first | apply Kd.S_alloc | apply Kd.S_drewN | apply Kd.S_drew)); exact HO_332000.out) hb)
       replace HO336 := Aside0.mk (Kd.S_below (by (with_reducible repeat (first | apply Kd.S_alloc | apply Kd.S_drewN | apply Kd.S_drew)); exact HO336.out) hb)
       replace BK319 := kb_ BK319 hb
       replace BK331 := kb_ BK331 hb
       replace HB := Aside0.mk (below_step oB hb)
       refine hK.out _ _ oH (fun hHeld => ?_)
       clear hK K
       refine norm_ (a' := ?_) ?_ ?_
       rotate_left
       ·show Act.put _ (some 45) _ = _
        simp only [Act.put, List.setIfInBounds_toArray, List.set_cons_zero, List.set_cons_succ, i64_w, i32_w]
        rfl
       refine pure_ (i := 4) (N := some 46) (v := ?_) (a' := ?_) #[true, true, true, true, true] rfl rfl (by kernel_rfl) (fun _ _ _ h => h) (Or.inl ⟨by rfl, ?_⟩) ?_ ?_
       rotate_left
       ·intro w'
        go_simp
        with_reducible rfl
       rotate_left
       ·simp only [Act.put, List.setIfInBounds_toArray, List.set_cons_zero, List.set_cons_succ, i64_w, i32_w]
        rfl
       refine done_ (by kernel_rfl) ?_
       try go_wp2
       go_ret
       exact ⟨oE, oB⟩

end Go.Proofs.YtkfcmpalbhmmaaaDoor.P
