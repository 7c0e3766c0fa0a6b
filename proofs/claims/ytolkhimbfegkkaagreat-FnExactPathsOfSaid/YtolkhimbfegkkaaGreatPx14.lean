-- By this session's own program (wip/myprint.py) out of the translation; Lean checks it.
import Derived.Test.YtolkhimbfegkkaaGreatPx0
import Derived.Test.YtolkhimbfegkkaaGreatPx11
namespace Go.Proofs.YtolkhimbfegkkaaGreat.P
open Go.RowKit Go.Proofs.YtolkhimbfegkkaaGreatW.PrintWords Go.Proofs.YtolkhimbfegkkaaGreatW.PrintLast Go.Proofs.YtolkhimbfegkkaaGreatW.PrintMore
attribute [local go_sem] max2_int min2_int max_two min_two max_three min_three max_four min_four   -- for this text's walks alone
set_option linter.unusedVariables false
set_option linter.unusedSimpArgs false

/-! ### laws_eqInodeS: function 22 -/
def laws_eqInodeS.l0 : Nat → List (S47) → List (S47) → Int → Option (Bool)
 | 0, _, _, _ => none
 | k + 1, x0, x1, x5 => if x5 < (x0.length : Int) then (if 0 ≤ x5 then (if x5 < (x1.length : Int) then ((laws_eqInode.f k ((rd_T47 x0 x5).f0) ((rd_T47 x0 x5).f1) ((rd_T47 x0 x5).f2) ((rd_T47 x0 x5).f3) ((rd_T47 x0 x5).f4) ((rd_T47 x0 x5).f5) ((rd_T47 x1 x5).f0) ((rd_T47 x1 x5).f1) ((rd_T47 x1 x5).f2) ((rd_T47 x1 x5).f3) ((rd_T47 x1 x5).f4) ((rd_T47 x1 x5).f5)).bind fun t524 => (if t524 = true then (laws_eqInodeS.l0 k x0 x1 (wrap64 (x5 + 1))) else (some false))) else (none)) else (none)) else (some true)
def laws_eqInodeS.f (k : Nat) (l0 : List (S47)) (l1 : List (S47)) : Option (Bool) := if (l0.length : Int) = (l1.length : Int) then (laws_eqInodeS.l0 k l0 l1 0) else (some false)
def laws_eqInodeS.T6 : Bool × List (List Nat × List Nat) := (true, [([], []), ([], []), ([0, 1], [0, 1]), ([2], [2]), ([], []), ([], []), ([4, 5], [4, 5]), ([6], [6]), ([3, 7], [3, 7]), ([8], [8])])
def laws_eqInodeS.B6 : List Nat := [0, 0, 3, 7, 0, 0, 48, 112, 255, 511]
theorem laws_eqInodeS.tab6 : rtab .any (opsOf Tryz.f22 6) = laws_eqInodeS.T6 := by kernel_rfl
theorem laws_eqInodeS.bits6 : waitsOk laws_eqInodeS.T6.2 laws_eqInodeS.B6 = true := by kernel_rfl
set_option maxHeartbeats 8000000 in
set_option maxRecDepth 100000 in
theorem laws_eqInodeS.calls (k : Nat) (A0 : Option Addr) (c0 : Nat) (l0 : List (S47)) (A1 : Option Addr) (c1 : Nat) (l1 : List (S47)) (r : Bool) (w : World) (hr0 : Kd.C k47 w A0 l0.length l0) (hc0 : l0.length ≤ c0) (hr1 : Kd.C k47 w A1 l1.length l1) (hc1 : l1.length ≤ c1) (h : laws_eqInodeS.f k l0 l1 = some r) :
  Calls Tryz.prog 22 #[.slice A0 l0.length c0, .slice A1 l1.length c1] w fun e w' => e = .returned (.bool r) ∧ Below w.heap.size w w' := by
 have hu47 := Tryz.underlying47
 have HR0 := Aside0.mk hr0
 have HC0 := Aside0.mk hc0
 clear hr0 hc0
 have HR1 := Aside0.mk hr1
 have HC1 := Aside0.mk hc1
 clear hr1 hc1
 have HB := Aside0.mk (Below.refl w.heap.size w)
 unfold laws_eqInodeS.f at h
 have H := h
 clear h
 by_cases c3 : (l0.length : Int) = (l1.length : Int)
 ·rw [if_pos c3] at H
  have c3b0 : ((l0.length : Int) == (l1.length : Int)) = true := beq_iff_eq.mpr c3
  have c3b1 : ((l0.length : Int) != (l1.length : Int)) = false := bne_eq_false_iff_eq.mpr c3
  have c3b2 : (l0.length == l1.length) = true := by first | simpa using c3 | (simp at c3 ⊢; omega)
  clear c3
  have H' := Aside0.mk H
  clear H
  go_enter Tryz.func22, Tryz.ntmps22
  go_wp2
  go_loopg [5] k (fun kq v5 w' => ∃ (x5_1 : Int), v5 = .int .i64 x5_1 ∧ Aside0 (laws_eqInodeS.l0 kq l0 l1 x5_1 = some r) ∧ Aside0 (kq ≤ k) ∧ Aside0 (Below w.heap.size w w'))
  case atStart => exact ⟨(0), oS, H', ⟨Nat.le_refl _⟩, ⟨oB⟩⟩
  case round =>
   clear H'
   try clear c1
   try clear c3
   obtain ⟨x5_1, rfl, HA, HK1, HB⟩ := hrel
   cases gk with
   | zero => exact absurd HA.out (by simp [laws_eqInodeS.l0])
   | succ k1 =>
    have H := HA.out
    clear HA
    simp only [laws_eqInodeS.l0] at H
    replace H := itD H
    rcases H with ⟨c4b0, H⟩ | ⟨c4b0, H⟩
    ·replace H := itD H
     rcases H with ⟨c5b0, H⟩ | ⟨c5b0, H⟩
     ·replace H := itD H
      rcases H with ⟨c6b0, H⟩ | ⟨c6b0, H⟩
      ·replace H := bA H
       obtain ⟨t524, A7, H⟩ := H
       try dsimp only at H
       replace H := itB H
       rcases H with ⟨rfl, H⟩ | ⟨rfl, H⟩
       ·have H' := Aside0.mk H
        clear H
        try go_wp2
        replace HB := Aside0.mk (below_drew1 HB.out)
        have p522 : (0 ≤ (x5_1 : Int)) = True := oT
        have q522 : (x5_1 < (l0.length : Int)) = True := oT
        obtain ⟨ad522, A522_3, c522_3, A522_4, c522_4, A522_5, c522_5, e522, hx522_0, hx522_1, hx522_2, hx522_3, hx522_4, hx522_5, hl522_3, hi522_3, hl522_4, hi522_4, hl522_5, hi522_5⟩ := at_T47 HR0.out x5_1 oa oa
        have hw522_5 := hx522_5
        have hw522_4 := hx522_4
        have hw522_3 := hx522_3
        have hw522_2 := hx522_2
        have hw522_1 := hx522_1
        have hw522_0 := hx522_0
        cases e522
        replace hx522_0 := cB HB hx522_0
        replace hx522_1 := cB HB hx522_1
        replace hx522_2 := cB HB hx522_2
        replace hx522_3 := cB HB hx522_3
        replace hx522_4 := cB HB hx522_4
        replace hx522_5 := cB HB hx522_5
        have HR522_3 := Aside0.mk hi522_3
        have HC522_3 := Aside0.mk hl522_3
        clear hi522_3 hl522_3
        have HR522_4 := Aside0.mk hi522_4
        have HC522_4 := Aside0.mk hl522_4
        clear hi522_4 hl522_4
        have HR522_5 := Aside0.mk hi522_5
        have HC522_5 := Aside0.mk hl522_5
        clear hi522_5 hl522_5
        have p523 : (0 ≤ (x5_1 : Int)) = True := oT
        have q523 : (x5_1 < (l1.length : Int)) = True := oT
        obtain ⟨ad523, A523_3, c523_3, A523_4, c523_4, A523_5, c523_5, e523, hx523_0, hx523_1, hx523_2, hx523_3, hx523_4, hx523_5, hl523_3, hi523_3, hl523_4, hi523_4, hl523_5, hi523_5⟩ := at_T47 HR1.out x5_1 oa oa
        have hw523_5 := hx523_5
        have hw523_4 := hx523_4
        have hw523_3 := hx523_3
        have hw523_2 := hx523_2
        have hw523_1 := hx523_1
        have hw523_0 := hx523_0
        cases e523
        replace hx523_0 := cB HB hx523_0
        replace hx523_1 := cB HB hx523_1
        replace hx523_2 := cB HB hx523_2
        replace hx523_3 := cB HB hx523_3
        replace hx523_4 := cB HB hx523_4
        replace hx523_5 := cB HB hx523_5
        have HR523_3 := Aside0.mk hi523_3
        have HC523_3 := Aside0.mk hl523_3
        clear hi523_3 hl523_3
        have HR523_4 := Aside0.mk hi523_4
        have HC523_4 := Aside0.mk hl523_4
        clear hi523_4 hl523_4
        have HR523_5 := Aside0.mk hi523_5
        have HC523_5 := Aside0.mk hl523_5
        clear hi523_5 hl523_5
        refine st_ 10 (fun w' => w'.cell? (ad522.add ((x5_1).toNat * 6)) = some (.int .i64 ((rd_T47 l0 x5_1).f0)) ∧ w'.cell? ⟨(ad522.add ((x5_1).toNat * 6)).block, (ad522.add ((x5_1).toNat * 6)).off + 1, none⟩ = some (.int .i64 ((rd_T47 l0 x5_1).f1)) ∧ w'.cell? ⟨(ad522.add ((x5_1).toNat * 6)).block, (ad522.add ((x5_1).toNat * 6)).off + 2, none⟩ = some (.int .i64 ((rd_T47 l0 x5_1).f2)) ∧ w'.cell? ⟨(ad522.add ((x5_1).toNat * 6)).block, (ad522.add ((x5_1).toNat * 6)).off + 3, none⟩ = some (.slice A522_3 ((rd_T47 l0 x5_1).f3).length c522_3) ∧ w'.cell? ⟨(ad522.add ((x5_1).toNat * 6)).block, (ad522.add ((x5_1).toNat * 6)).off + 4, none⟩ = some (.slice A522_4 ((rd_T47 l0 x5_1).f4).length c522_4) ∧ w'.cell? ⟨(ad522.add ((x5_1).toNat * 6)).block, (ad522.add ((x5_1).toNat * 6)).off + 5, none⟩ = some (.slice A522_5 ((rd_T47 l0 x5_1).f5).length c522_5) ∧ w'.cell? (ad523.add ((x5_1).toNat * 6)) = some (.int .i64 ((rd_T47 l1 x5_1).f0)) ∧ w'.cell? ⟨(ad523.add ((x5_1).toNat * 6)).block, (ad523.add ((x5_1).toNat * 6)).off + 1, none⟩ = some (.int .i64 ((rd_T47 l1 x5_1).f1)) ∧ w'.cell? ⟨(ad523.add ((x5_1).toNat * 6)).block, (ad523.add ((x5_1).toNat * 6)).off + 2, none⟩ = some (.int .i64 ((rd_T47 l1 x5_1).f2)) ∧ w'.cell? ⟨(ad523.add ((x5_1).toNat * 6)).block, (ad523.add ((x5_1).toNat * 6)).off + 3, none⟩ = some (.slice A523_3 ((rd_T47 l1 x5_1).f3).length c523_3) ∧ w'.cell? ⟨(ad523.add ((x5_1).toNat * 6)).block, (ad523.add ((x5_1).toNat * 6)).off + 4, none⟩ = some (.slice A523_4 ((rd_T47 l1 x5_1).f4).length c523_4) ∧ w'.cell? ⟨(ad523.add ((x5_1).toNat * 6)).block, (ad523.add ((x5_1).toNat * 6)).off + 5, none⟩ = some (.slice A523_5 ((rd_T47 l1 x5_1).f5).length c523_5)) laws_eqInodeS.tab6 laws_eqInodeS.bits6 oH (fun hHeld HT_ HW_ => ?_)
        generalize wr.drew = w9 at HB HR522_3 HR522_4 HR522_5 HR523_3 HR523_4 HR523_5 hx522_0 hx522_1 hx522_2 hx522_3 hx522_4 hx522_5 hx523_0 hx523_1 hx523_2 hx523_3 hx523_4 hx523_5 hHeld ⊢
        refine pu_ 0 17 HT_ ?_
        refine pu_ 1 18 HT_ ?_
        refine pu_ 2 19 HT_ ?_
        refine pu_ 4 21 HT_ ?_
        refine pu_ 5 22 HT_ ?_
        refine pu_ 6 23 HT_ ?_
        refine ta_ 3 20 HT_ HW_ hHeld ?_
        refine ta_ 7 24 HT_ HW_ hHeld ?_
        refine on_ 8 25 HT_ (fun K hK => ?_)
        refine gr_ 25 Tryz.func39 (laws_eqInode.calls k1 ((rd_T47 l0 x5_1).f0) ((rd_T47 l0 x5_1).f1) ((rd_T47 l0 x5_1).f2) _ _ ((rd_T47 l0 x5_1).f3) _ _ ((rd_T47 l0 x5_1).f4) _ _ ((rd_T47 l0 x5_1).f5) ((rd_T47 l1 x5_1).f0) ((rd_T47 l1 x5_1).f1) ((rd_T47 l1 x5_1).f2) _ _ ((rd_T47 l1 x5_1).f3) _ _ ((rd_T47 l1 x5_1).f4) _ _ ((rd_T47 l1 x5_1).f5) true _ (kC HR522_3) HC522_3.out (kC HR522_4) HC522_4.out (kC HR522_5) HC522_5.out (kC HR523_3) HC523_3.out (kC HR523_4) HC523_4.out (kC HR523_5) HC523_5.out A7.out) ?_
        rintro e w10 ⟨rfl, hb⟩
        refine ⟨_, rfl, ?_⟩
        replace HB := Aside0.mk (below_step oB hb)
        refine hk_ hK 25 oH (fun hHeld => ?_)
        clear hK K
        refine pu_ 9 26 HT_ ?_
        refine dn_ HT_ ?_
        try go_wp2
        go_roundg k1
        case measure => have := HK1.out; omega
        case rel => exact ⟨(wrap64 (x5_1 + 1)), oS, H', ⟨by have := HK1.out; omega⟩, ⟨oB⟩⟩
       ·obtain rfl := Option.some.inj H
        try go_wp2
        replace HB := Aside0.mk (below_drew1 HB.out)
        have p522 : (0 ≤ (x5_1 : Int)) = True := oT
        have q522 : (x5_1 < (l0.length : Int)) = True := oT
        obtain ⟨ad522, A522_3, c522_3, A522_4, c522_4, A522_5, c522_5, e522, hx522_0, hx522_1, hx522_2, hx522_3, hx522_4, hx522_5, hl522_3, hi522_3, hl522_4, hi522_4, hl522_5, hi522_5⟩ := at_T47 HR0.out x5_1 oa oa
        have hw522_5 := hx522_5
        have hw522_4 := hx522_4
        have hw522_3 := hx522_3
        have hw522_2 := hx522_2
        have hw522_1 := hx522_1
        have hw522_0 := hx522_0
        cases e522
        replace hx522_0 := cB HB hx522_0
        replace hx522_1 := cB HB hx522_1
        replace hx522_2 := cB HB hx522_2
        replace hx522_3 := cB HB hx522_3
        replace hx522_4 := cB HB hx522_4
        replace hx522_5 := cB HB hx522_5
        have HR522_3 := Aside0.mk hi522_3
        have HC522_3 := Aside0.mk hl522_3
        clear hi522_3 hl522_3
        have HR522_4 := Aside0.mk hi522_4
        have HC522_4 := Aside0.mk hl522_4
        clear hi522_4 hl522_4
        have HR522_5 := Aside0.mk hi522_5
        have HC522_5 := Aside0.mk hl522_5
        clear hi522_5 hl522_5
        have p523 : (0 ≤ (x5_1 : Int)) = True := oT
        have q523 : (x5_1 < (l1.length : Int)) = True := oT
        obtain ⟨ad523, A523_3, c523_3, A523_4, c523_4, A523_5, c523_5, e523, hx523_0, hx523_1, hx523_2, hx523_3, hx523_4, hx523_5, hl523_3, hi523_3, hl523_4, hi523_4, hl523_5, hi523_5⟩ := at_T47 HR1.out x5_1 oa oa
        have hw523_5 := hx523_5
        have hw523_4 := hx523_4
        have hw523_3 := hx523_3
        have hw523_2 := hx523_2
        have hw523_1 := hx523_1
        have hw523_0 := hx523_0
        cases e523
        replace hx523_0 := cB HB hx523_0
        replace hx523_1 := cB HB hx523_1
        replace hx523_2 := cB HB hx523_2
        replace hx523_3 := cB HB hx523_3
        replace hx523_4 := cB HB hx523_4
        replace hx523_5 := cB HB hx523_5
        have HR523_3 := Aside0.mk hi523_3
        have HC523_3 := Aside0.mk hl523_3
        clear hi523_3 hl523_3
        have HR523_4 := Aside0.mk hi523_4
        have HC523_4 := Aside0.mk hl523_4
        clear hi523_4 hl523_4
        have HR523_5 := Aside0.mk hi523_5
        have HC523_5 := Aside0.mk hl523_5
        clear hi523_5 hl523_5
        refine st_ 10 (fun w' => w'.cell? (ad522.add ((x5_1).toNat * 6)) = some (.int .i64 ((rd_T47 l0 x5_1).f0)) ∧ w'.cell? ⟨(ad522.add ((x5_1).toNat * 6)).block, (ad522.add ((x5_1).toNat * 6)).off + 1, none⟩ = some (.int .i64 ((rd_T47 l0 x5_1).f1)) ∧ w'.cell? ⟨(ad522.add ((x5_1).toNat * 6)).block, (ad522.add ((x5_1).toNat * 6)).off + 2, none⟩ = some (.int .i64 ((rd_T47 l0 x5_1).f2)) ∧ w'.cell? ⟨(ad522.add ((x5_1).toNat * 6)).block, (ad522.add ((x5_1).toNat * 6)).off + 3, none⟩ = some (.slice A522_3 ((rd_T47 l0 x5_1).f3).length c522_3) ∧ w'.cell? ⟨(ad522.add ((x5_1).toNat * 6)).block, (ad522.add ((x5_1).toNat * 6)).off + 4, none⟩ = some (.slice A522_4 ((rd_T47 l0 x5_1).f4).length c522_4) ∧ w'.cell? ⟨(ad522.add ((x5_1).toNat * 6)).block, (ad522.add ((x5_1).toNat * 6)).off + 5, none⟩ = some (.slice A522_5 ((rd_T47 l0 x5_1).f5).length c522_5) ∧ w'.cell? (ad523.add ((x5_1).toNat * 6)) = some (.int .i64 ((rd_T47 l1 x5_1).f0)) ∧ w'.cell? ⟨(ad523.add ((x5_1).toNat * 6)).block, (ad523.add ((x5_1).toNat * 6)).off + 1, none⟩ = some (.int .i64 ((rd_T47 l1 x5_1).f1)) ∧ w'.cell? ⟨(ad523.add ((x5_1).toNat * 6)).block, (ad523.add ((x5_1).toNat * 6)).off + 2, none⟩ = some (.int .i64 ((rd_T47 l1 x5_1).f2)) ∧ w'.cell? ⟨(ad523.add ((x5_1).toNat * 6)).block, (ad523.add ((x5_1).toNat * 6)).off + 3, none⟩ = some (.slice A523_3 ((rd_T47 l1 x5_1).f3).length c523_3) ∧ w'.cell? ⟨(ad523.add ((x5_1).toNat * 6)).block, (ad523.add ((x5_1).toNat * 6)).off + 4, none⟩ = some (.slice A523_4 ((rd_T47 l1 x5_1).f4).length c523_4) ∧ w'.cell? ⟨(ad523.add ((x5_1).toNat * 6)).block, (ad523.add ((x5_1).toNat * 6)).off + 5, none⟩ = some (.slice A523_5 ((rd_T47 l1 x5_1).f5).length c523_5)) laws_eqInodeS.tab6 laws_eqInodeS.bits6 oH (fun hHeld HT_ HW_ => ?_)
        generalize wr.drew = w11 at HB HR522_3 HR522_4 HR522_5 HR523_3 HR523_4 HR523_5 hx522_0 hx522_1 hx522_2 hx522_3 hx522_4 hx522_5 hx523_0 hx523_1 hx523_2 hx523_3 hx523_4 hx523_5 hHeld ⊢
        refine pu_ 0 17 HT_ ?_
        refine pu_ 1 18 HT_ ?_
        refine pu_ 2 19 HT_ ?_
        refine pu_ 4 21 HT_ ?_
        refine pu_ 5 22 HT_ ?_
        refine pu_ 6 23 HT_ ?_
        refine ta_ 3 20 HT_ HW_ hHeld ?_
        refine ta_ 7 24 HT_ HW_ hHeld ?_
        refine on_ 8 25 HT_ (fun K hK => ?_)
        refine gr_ 25 Tryz.func39 (laws_eqInode.calls k1 ((rd_T47 l0 x5_1).f0) ((rd_T47 l0 x5_1).f1) ((rd_T47 l0 x5_1).f2) _ _ ((rd_T47 l0 x5_1).f3) _ _ ((rd_T47 l0 x5_1).f4) _ _ ((rd_T47 l0 x5_1).f5) ((rd_T47 l1 x5_1).f0) ((rd_T47 l1 x5_1).f1) ((rd_T47 l1 x5_1).f2) _ _ ((rd_T47 l1 x5_1).f3) _ _ ((rd_T47 l1 x5_1).f4) _ _ ((rd_T47 l1 x5_1).f5) false _ (kC HR522_3) HC522_3.out (kC HR522_4) HC522_4.out (kC HR522_5) HC522_5.out (kC HR523_3) HC523_3.out (kC HR523_4) HC523_4.out (kC HR523_5) HC523_5.out A7.out) ?_
        rintro e w12 ⟨rfl, hb⟩
        refine ⟨_, rfl, ?_⟩
        replace HB := Aside0.mk (below_step oB hb)
        refine hk_ hK 25 oH (fun hHeld => ?_)
        clear hK K
        refine pu_ 9 26 HT_ ?_
        refine dn_ HT_ ?_
        try go_wp2
        go_ret
        exact ⟨oE, oB⟩
      ·cases H
     ·cases H
    ·obtain rfl := Option.some.inj H
     go_wp2
     go_ret
     exact ⟨oE, oB⟩
 ·rw [if_neg c3] at H
  have c3b0 : ((l0.length : Int) == (l1.length : Int)) = false := beq_eq_false_iff_ne.mpr c3
  have c3b1 : ((l0.length : Int) != (l1.length : Int)) = true := bne_iff_ne.mpr c3
  have c3b2 : (l0.length == l1.length) = false := by first | simpa using c3 | (simp at c3 ⊢; omega)
  obtain rfl := Option.some.inj H
  go_enter Tryz.func22, Tryz.ntmps22
  go_wp2
  go_ret
  exact ⟨oE, oB⟩

end Go.Proofs.YtolkhimbfegkkaaGreat.P
