-- By this session's own program (wip/myprint.py) out of the translation; Lean checks it.
import Derived.Test.YtkknehgaebhbeaaPx0
import Derived.Test.YtkknehgaebhbeaaPx1
import Derived.Test.YtkknehgaebhbeaaPx2
import Derived.Test.YtkknehgaebhbeaaPx4
namespace Go.Proofs.Ytkknehgaebhbeaa.P
open Go.RowKit Go.Proofs.YtkknehgaebhbeaaW.PrintWords Go.Proofs.YtkknehgaebhbeaaW.PrintLast Go.Proofs.YtkknehgaebhbeaaW.PrintMore
attribute [local go_sem] max2_int min2_int max_two min_two max_three min_three max_four min_four   -- for this text's walks alone
set_option linter.unusedVariables false
set_option linter.unusedSimpArgs false

attribute [local go_sem high] eqA83 eqA85
/-! ### spec_SameTab: function 41 -/
mutual
def spec_SameTab.j0 : Nat → Bool → List (S45) → Int → List (S45) → Int → Option (Bool)
 | 0, _, _, _, _, _ => none
 | k + 1, x19, x208000, x208001, x209000, x209001 => if x19 = true then (some false) else (spec_SameTab.l0 k 0 x208000 x208001 x209000 x209001)
def spec_SameTab.l0 : Nat → Int → List (S45) → Int → List (S45) → Int → Option (Bool)
 | 0, _, _, _, _, _ => none
 | k + 1, x5, x208000, x208001, x209000, x209001 => if x5 < (x208000.length : Int) then (if 0 ≤ x5 then (if x5 < (x209000.length : Int) then ((spec_SameInode.f k ((rd_T45 x208000 x5).f0) ((rd_T45 x208000 x5).f1) ((rd_T45 x208000 x5).f2) ((rd_T45 x208000 x5).f3) ((rd_T45 x208000 x5).f4) ((rd_T45 x208000 x5).f5) ((rd_T45 x209000 x5).f0) ((rd_T45 x209000 x5).f1) ((rd_T45 x209000 x5).f2) ((rd_T45 x209000 x5).f3) ((rd_T45 x209000 x5).f4) ((rd_T45 x209000 x5).f5)).bind fun t211 => (if t211 = true then (spec_SameTab.l0 k (wrap64 (x5 + 1)) x208000 x208001 x209000 x209001) else (some false))) else (none)) else (none)) else (some true)
end
def spec_SameTab.f (k : Nat) (l0_0 : List (S45)) (a0_1 : Int) (l1_0 : List (S45)) (a1_1 : Int) : Option (Bool) := if a0_1 = a1_1 then (spec_SameTab.j0 k ((l0_0.length : Int) != (l1_0.length : Int)) l0_0 a0_1 l1_0 a1_1) else (spec_SameTab.j0 k true l0_0 a0_1 l1_0 a1_1)
def spec_SameTab.T6 : Bool × List (List Nat × List Nat) := (true, [([], []), ([0], [0]), ([], []), ([1, 2], [1, 2]), ([3], [3]), ([], []), ([5], [5]), ([], []), ([6, 7], [6, 7]), ([8], [8]), ([4, 9], [4, 9]), ([10], [10])])
def spec_SameTab.B6 : List Nat := [0, 1, 0, 7, 15, 0, 32, 0, 224, 480, 1023, 2047]
theorem spec_SameTab.tab6 : rtab .any (opsOf Try.f41 6) = spec_SameTab.T6 := by kernel_rfl
theorem spec_SameTab.bits6 : waitsOk spec_SameTab.T6.2 spec_SameTab.B6 = true := by kernel_rfl
set_option maxHeartbeats 8000000 in
set_option maxRecDepth 100000 in
theorem spec_SameTab.calls (k : Nat) (A0_0 : Option Addr) (c0_0 : Nat) (l0_0 : List (S45)) (a0_1 : Int) (A1_0 : Option Addr) (c1_0 : Nat) (l1_0 : List (S45)) (a1_1 : Int) (r : Bool) (w : World) (hr0_0 : Kd.C k45 w A0_0 l0_0.length l0_0) (hc0_0 : l0_0.length ≤ c0_0) (hr1_0 : Kd.C k45 w A1_0 l1_0.length l1_0) (hc1_0 : l1_0.length ≤ c1_0) (h : spec_SameTab.f k l0_0 a0_1 l1_0 a1_1 = some r) :
  Calls Try.prog 41 #[.agg #[.slice A0_0 l0_0.length c0_0, .int .i64 a0_1], .agg #[.slice A1_0 l1_0.length c1_0, .int .i64 a1_1]] w fun e w' => e = .returned (.bool r) ∧ Below w.heap.size w w' := by
 have hu30 := Try.underlying30
 have hu45 := Try.underlying45
 have HR0_0 := Aside0.mk hr0_0
 have HC0_0 := Aside0.mk hc0_0
 clear hr0_0 hc0_0
 have HR1_0 := Aside0.mk hr1_0
 have HC1_0 := Aside0.mk hc1_0
 clear hr1_0 hc1_0
 have HB := Aside0.mk (Below.refl w.heap.size w)
 unfold spec_SameTab.f at h
 have H := h
 clear h
 have HC3 := Aside0.mk H
 clear H
 go_enter Try.func41, Try.ntmps41
 go_upto_region 1 with (first | ((with_reducible refine gate_dst (N := 2) rfl ?_); (try (refine gate_guard (by rfl) ?_; dsimp only)); refine bx_ 2 #[.slice A0_0 l0_0.length c0_0, .int .i64 a0_1] 30 ?_; intro gb207 hg w4 hbox hb; have BK207 := Aside0.mk (hbox); have GW207 := gs_ hg; have GE207 := gs_ hg; replace HB := Aside0.mk (below_step oB hb); clear hb hbox hg) | ((with_reducible refine gate_dst (N := 3) rfl ?_); (try (refine gate_guard (by rfl) ?_; dsimp only)); refine bx_ 3 #[.slice A1_0 l1_0.length c1_0, .int .i64 a1_1] 30 ?_; intro gb208 hg w5 hbox hb; have BK208 := Aside0.mk (hbox); have GW208 := gs_ hg; have GE208 := gs_ hg; have NB207_208 := nl_ hg BK207; have NB208_207 := nr_ hg BK207; replace BK207 := kb_ BK207 hb; replace HB := Aside0.mk (below_step oB hb); clear hb hbox hg))
 (try simp only [Act.put, List.setIfInBounds_toArray, List.set_cons_zero, List.set_cons_succ])
 go_cut [19] (fun v19 wc => ∃ (kq : Nat) (x19_2 : Bool), v19 = .bool x19_2 ∧ Aside0 (spec_SameTab.j0 kq x19_2 l0_0 a0_1 l1_0 a1_1 = some r) ∧ Aside0 (kq ≤ k) ∧ Aside0 (wc.heap[gb207]? = some (.cells #[(.slice A0_0 l0_0.length c0_0), .int .i64 a0_1] 30 (0, 0))) ∧ Aside0 (wc.heap[gb208]? = some (.cells #[(.slice A1_0 l1_0.length c1_0), .int .i64 a1_1] 30 (0, 0))) ∧ Aside0 (Below w.heap.size w wc))
 case first =>
  have H := HC3.out
  clear HC3
  by_cases c6 : a0_1 = a1_1
  ·rw [if_pos c6] at H
   have c6b0 : (a0_1 == a1_1) = true := beq_iff_eq.mpr c6
   have c6b1 : (a0_1 != a1_1) = false := bne_eq_false_iff_eq.mpr c6
   clear c6
   (first | rw [c6b0] | rw [c6b2] | (simp only [i64_w, i32_w]; rw [c6b0]) | skip)
   have H' := Aside0.mk H
   clear H
   have hnb7 := NB207_208.out
   have hnc7 := NB208_207.out
   obtain ⟨⟨_, _⟩, _, _⟩ := z2 BK207
   obtain ⟨⟨_, _⟩, _, _⟩ := z2 BK208
   go_wp2
   go_meet
   case rel => exact ⟨_, (((l0_0.length : Int) != (l1_0.length : Int))), oS, H', ⟨by first | omega | exact Nat.le_refl _⟩, ⟨oF BK207⟩, ⟨oF BK208⟩, ⟨oB⟩⟩
  ·rw [if_neg c6] at H
   have c6b0 : (a0_1 == a1_1) = false := beq_eq_false_iff_ne.mpr c6
   have c6b1 : (a0_1 != a1_1) = true := bne_iff_ne.mpr c6
   (first | rw [c6b0] | rw [c6b2] | (simp only [i64_w, i32_w]; rw [c6b0]) | skip)
   have H' := Aside0.mk H
   clear H
   have hnb10 := NB207_208.out
   have hnc10 := NB208_207.out
   obtain ⟨⟨_, _⟩, _, _⟩ := z2 BK207
   obtain ⟨⟨_, _⟩, _, _⟩ := z2 BK208
   go_wp2
   go_meet
   case rel => exact ⟨_, (true), oS, H', ⟨by first | omega | exact Nat.le_refl _⟩, ⟨oF BK207⟩, ⟨oF BK208⟩, ⟨oB⟩⟩
 case rest =>
  clear HC3
  obtain ⟨kq, x19_2, rfl, HA, HJ2, BK207, BK208, HB⟩ := hcut
  cases kq with
  | zero => exact absurd HA.out (by simp [spec_SameTab.j0])
  | succ kj2 =>
   have H := HA.out
   clear HA
   simp only [spec_SameTab.j0] at H
   replace H := itB H
   rcases H with ⟨rfl, H⟩ | ⟨rfl, H⟩
   ·obtain rfl := Option.some.inj H
    go_wp2
    go_ret
    exact ⟨oE, oB⟩
   ·have H' := Aside0.mk H
    clear H
    go_wp2
    go_loopg [5] kj2 (fun kq v5 w' => ∃ (x5_2 : Int), v5 = .int .i64 x5_2 ∧ Aside0 (spec_SameTab.l0 kq x5_2 l0_0 a0_1 l1_0 a1_1 = some r) ∧ Aside0 (kq ≤ kj2) ∧ Aside0 (w'.heap[gb207]? = some (.cells #[(.slice A0_0 l0_0.length c0_0), .int .i64 a0_1] 30 (0, 0))) ∧ Aside0 (w'.heap[gb208]? = some (.cells #[(.slice A1_0 l1_0.length c1_0), .int .i64 a1_1] 30 (0, 0))) ∧ Aside0 (Below w.heap.size w w'))
    case atStart => exact ⟨(0), oS, H', ⟨Nat.le_refl _⟩, ⟨oF BK207⟩, ⟨oF BK208⟩, ⟨oB⟩⟩
    case round =>
     clear H'
     obtain ⟨x5_2, rfl, HA, HK2, BK207, BK208, HB⟩ := hrel
     cases gk with
     | zero => exact absurd HA.out (by simp [spec_SameTab.l0])
     | succ k2 =>
      have H := HA.out
      clear HA
      simp only [spec_SameTab.l0] at H
      replace H := itD H
      rcases H with ⟨c14b0, H⟩ | ⟨c14b0, H⟩
      ·replace H := itD H
       rcases H with ⟨c15b0, H⟩ | ⟨c15b0, H⟩
       ·replace H := itD H
        rcases H with ⟨c16b0, H⟩ | ⟨c16b0, H⟩
        ·replace H := bA H
         obtain ⟨t211, A17, H⟩ := H
         try dsimp only at H
         replace H := itB H
         rcases H with ⟨rfl, H⟩ | ⟨rfl, H⟩
         ·have H' := Aside0.mk H
          clear H
          have hnb19 := NB207_208.out
          have hnc19 := NB208_207.out
          obtain ⟨⟨_, _⟩, _, _⟩ := z2 BK207
          try go_wp2
          replace BK207 := Aside0.mk (blk_drew BK207.out)
          replace BK208 := Aside0.mk (blk_drew BK208.out)
          replace HB := Aside0.mk (below_drew1 HB.out)
          have p209 : (0 ≤ (x5_2 : Int)) = True := oT
          have q209 : (x5_2 < (l0_0.length : Int)) = True := oT
          obtain ⟨ad209, A209_3, c209_3, A209_4, c209_4, A209_5, c209_5, e209, hx209_0, hx209_1, hx209_2, hx209_3, hx209_4, hx209_5, hl209_3, hi209_3, hl209_4, hi209_4, hl209_5, hi209_5⟩ := at_T45 HR0_0.out x5_2 oa oa
          have hw209_5 := hx209_5
          have hw209_4 := hx209_4
          have hw209_3 := hx209_3
          have hw209_2 := hx209_2
          have hw209_1 := hx209_1
          have hw209_0 := hx209_0
          cases e209
          replace hx209_0 := cB HB hx209_0
          replace hx209_1 := cB HB hx209_1
          replace hx209_2 := cB HB hx209_2
          replace hx209_3 := cB HB hx209_3
          replace hx209_4 := cB HB hx209_4
          replace hx209_5 := cB HB hx209_5
          have HR209_3 := Aside0.mk hi209_3
          have HC209_3 := Aside0.mk hl209_3
          clear hi209_3 hl209_3
          have HR209_4 := Aside0.mk hi209_4
          have HC209_4 := Aside0.mk hl209_4
          clear hi209_4 hl209_4
          have HR209_5 := Aside0.mk hi209_5
          have HC209_5 := Aside0.mk hl209_5
          clear hi209_5 hl209_5
          have p210 : (0 ≤ (x5_2 : Int)) = True := oT
          have q210 : (x5_2 < (l1_0.length : Int)) = True := oT
          obtain ⟨ad210, A210_3, c210_3, A210_4, c210_4, A210_5, c210_5, e210, hx210_0, hx210_1, hx210_2, hx210_3, hx210_4, hx210_5, hl210_3, hi210_3, hl210_4, hi210_4, hl210_5, hi210_5⟩ := at_T45 HR1_0.out x5_2 oa oa
          have hw210_5 := hx210_5
          have hw210_4 := hx210_4
          have hw210_3 := hx210_3
          have hw210_2 := hx210_2
          have hw210_1 := hx210_1
          have hw210_0 := hx210_0
          cases e210
          replace hx210_0 := cB HB hx210_0
          replace hx210_1 := cB HB hx210_1
          replace hx210_2 := cB HB hx210_2
          replace hx210_3 := cB HB hx210_3
          replace hx210_4 := cB HB hx210_4
          replace hx210_5 := cB HB hx210_5
          have HR210_3 := Aside0.mk hi210_3
          have HC210_3 := Aside0.mk hl210_3
          clear hi210_3 hl210_3
          have HR210_4 := Aside0.mk hi210_4
          have HC210_4 := Aside0.mk hl210_4
          clear hi210_4 hl210_4
          have HR210_5 := Aside0.mk hi210_5
          have HC210_5 := Aside0.mk hl210_5
          clear hi210_5 hl210_5
          refine st_ 12 (fun w' => w'.cell? ⟨gb207, 0, none⟩ = some (.slice (some ad209) l0_0.length c0_0) ∧ w'.cell? ⟨gb207, 1, none⟩ = some (.int .i64 a0_1) ∧ w'.cell? ⟨gb208, 0, none⟩ = some (.slice (some ad210) l1_0.length c1_0) ∧ w'.cell? ⟨gb208, 1, none⟩ = some (.int .i64 a1_1) ∧ w'.cell? (ad209.add ((x5_2).toNat * 6)) = some (.int .i64 ((rd_T45 l0_0 x5_2).f0)) ∧ w'.cell? ⟨(ad209.add ((x5_2).toNat * 6)).block, (ad209.add ((x5_2).toNat * 6)).off + 1, none⟩ = some (.int .i64 ((rd_T45 l0_0 x5_2).f1)) ∧ w'.cell? ⟨(ad209.add ((x5_2).toNat * 6)).block, (ad209.add ((x5_2).toNat * 6)).off + 2, none⟩ = some (.int .i64 ((rd_T45 l0_0 x5_2).f2)) ∧ w'.cell? ⟨(ad209.add ((x5_2).toNat * 6)).block, (ad209.add ((x5_2).toNat * 6)).off + 3, none⟩ = some (.slice A209_3 ((rd_T45 l0_0 x5_2).f3).length c209_3) ∧ w'.cell? ⟨(ad209.add ((x5_2).toNat * 6)).block, (ad209.add ((x5_2).toNat * 6)).off + 4, none⟩ = some (.slice A209_4 ((rd_T45 l0_0 x5_2).f4).length c209_4) ∧ w'.cell? ⟨(ad209.add ((x5_2).toNat * 6)).block, (ad209.add ((x5_2).toNat * 6)).off + 5, none⟩ = some (.slice A209_5 ((rd_T45 l0_0 x5_2).f5).length c209_5) ∧ w'.cell? (ad210.add ((x5_2).toNat * 6)) = some (.int .i64 ((rd_T45 l1_0 x5_2).f0)) ∧ w'.cell? ⟨(ad210.add ((x5_2).toNat * 6)).block, (ad210.add ((x5_2).toNat * 6)).off + 1, none⟩ = some (.int .i64 ((rd_T45 l1_0 x5_2).f1)) ∧ w'.cell? ⟨(ad210.add ((x5_2).toNat * 6)).block, (ad210.add ((x5_2).toNat * 6)).off + 2, none⟩ = some (.int .i64 ((rd_T45 l1_0 x5_2).f2)) ∧ w'.cell? ⟨(ad210.add ((x5_2).toNat * 6)).block, (ad210.add ((x5_2).toNat * 6)).off + 3, none⟩ = some (.slice A210_3 ((rd_T45 l1_0 x5_2).f3).length c210_3) ∧ w'.cell? ⟨(ad210.add ((x5_2).toNat * 6)).block, (ad210.add ((x5_2).toNat * 6)).off + 4, none⟩ = some (.slice A210_4 ((rd_T45 l1_0 x5_2).f4).length c210_4) ∧ w'.cell? ⟨(ad210.add ((x5_2).toNat * 6)).block, (ad210.add ((x5_2).toNat * 6)).off + 5, none⟩ = some (.slice A210_5 ((rd_T45 l1_0 x5_2).f5).length c210_5)) spec_SameTab.tab6 spec_SameTab.bits6 ⟨(blk_cell BK207.out 0).trans rfl, (blk_cell BK207.out 1).trans rfl, (blk_cell BK208.out 0).trans rfl, (blk_cell BK208.out 1).trans rfl, (cB HB hw209_0), (cB HB hw209_1), (cB HB hw209_2), (cB HB hw209_3), (cB HB hw209_4), (cB HB hw209_5), (cB HB hw210_0), (cB HB hw210_1), (cB HB hw210_2), (cB HB hw210_3), (cB HB hw210_4), (cB HB hw210_5)⟩ (fun hHeld HT_ HW_ => ?_)
          generalize wr.drew = w21 at BK207 BK208 HB HR209_3 HR209_4 HR209_5 HR210_3 HR210_4 HR210_5 hx209_0 hx209_1 hx209_2 hx209_3 hx209_4 hx209_5 hx210_0 hx210_1 hx210_2 hx210_3 hx210_4 hx210_5 hHeld ⊢
          refine pu_ 0 27 HT_ ?_
          refine pu_ 2 29 HT_ ?_
          refine pu_ 5 32 HT_ ?_
          refine pu_ 7 34 HT_ ?_
          refine ta_ 1 28 HT_ HW_ hHeld ?_
          refine pu_ 3 30 HT_ ?_
          refine ta_ 4 31 HT_ HW_ hHeld ?_
          refine ta_ 6 33 HT_ HW_ hHeld ?_
          refine pu_ 8 35 HT_ ?_
          refine ta_ 9 36 HT_ HW_ hHeld ?_
          refine on_ 10 37 HT_ (fun K hK => ?_)
          refine gr_ 37 Try.func29 (spec_SameInode.calls k2 ((rd_T45 l0_0 x5_2).f0) ((rd_T45 l0_0 x5_2).f1) ((rd_T45 l0_0 x5_2).f2) _ _ ((rd_T45 l0_0 x5_2).f3) _ _ ((rd_T45 l0_0 x5_2).f4) _ _ ((rd_T45 l0_0 x5_2).f5) ((rd_T45 l1_0 x5_2).f0) ((rd_T45 l1_0 x5_2).f1) ((rd_T45 l1_0 x5_2).f2) _ _ ((rd_T45 l1_0 x5_2).f3) _ _ ((rd_T45 l1_0 x5_2).f4) _ _ ((rd_T45 l1_0 x5_2).f5) true _ (kC HR209_3) HC209_3.out (kC HR209_4) HC209_4.out (kC HR209_5) HC209_5.out (kC HR210_3) HC210_3.out (kC HR210_4) HC210_4.out (kC HR210_5) HC210_5.out A17.out) ?_
          rintro e w22 ⟨rfl, hb⟩
          refine ⟨_, rfl, ?_⟩
          replace BK207 := kb_ BK207 hb
          replace BK208 := kb_ BK208 hb
          replace HB := Aside0.mk (below_step oB hb)
          refine hk_ hK 37 ⟨(blk_cell BK207.out 0).trans rfl, (blk_cell BK207.out 1).trans rfl, (blk_cell BK208.out 0).trans rfl, (blk_cell BK208.out 1).trans rfl, (cB HB hw209_0), (cB HB hw209_1), (cB HB hw209_2), (cB HB hw209_3), (cB HB hw209_4), (cB HB hw209_5), (cB HB hw210_0), (cB HB hw210_1), (cB HB hw210_2), (cB HB hw210_3), (cB HB hw210_4), (cB HB hw210_5)⟩ (fun hHeld => ?_)
          clear hK K
          refine pu_ 11 38 HT_ ?_
          refine dn_ HT_ ?_
          try go_wp2
          go_roundg k2
          case measure => have := HJ2.out; have := HK2.out; omega
          case rel => exact ⟨(wrap64 (x5_2 + 1)), oS, H', ⟨by have := HJ2.out; have := HK2.out; omega⟩, ⟨oF BK207⟩, ⟨oF BK208⟩, ⟨oB⟩⟩
         ·obtain rfl := Option.some.inj H
          have hnb23 := NB207_208.out
          have hnc23 := NB208_207.out
          obtain ⟨⟨_, _⟩, _, _⟩ := z2 BK207
          try go_wp2
          replace BK207 := Aside0.mk (blk_drew BK207.out)
          replace BK208 := Aside0.mk (blk_drew BK208.out)
          replace HB := Aside0.mk (below_drew1 HB.out)
          have p209 : (0 ≤ (x5_2 : Int)) = True := oT
          have q209 : (x5_2 < (l0_0.length : Int)) = True := oT
          obtain ⟨ad209, A209_3, c209_3, A209_4, c209_4, A209_5, c209_5, e209, hx209_0, hx209_1, hx209_2, hx209_3, hx209_4, hx209_5, hl209_3, hi209_3, hl209_4, hi209_4, hl209_5, hi209_5⟩ := at_T45 HR0_0.out x5_2 oa oa
          have hw209_5 := hx209_5
          have hw209_4 := hx209_4
          have hw209_3 := hx209_3
          have hw209_2 := hx209_2
          have hw209_1 := hx209_1
          have hw209_0 := hx209_0
          cases e209
          replace hx209_0 := cB HB hx209_0
          replace hx209_1 := cB HB hx209_1
          replace hx209_2 := cB HB hx209_2
          replace hx209_3 := cB HB hx209_3
          replace hx209_4 := cB HB hx209_4
          replace hx209_5 := cB HB hx209_5
          have HR209_3 := Aside0.mk hi209_3
          have HC209_3 := Aside0.mk hl209_3
          clear hi209_3 hl209_3
          have HR209_4 := Aside0.mk hi209_4
          have HC209_4 := Aside0.mk hl209_4
          clear hi209_4 hl209_4
          have HR209_5 := Aside0.mk hi209_5
          have HC209_5 := Aside0.mk hl209_5
          clear hi209_5 hl209_5
          have p210 : (0 ≤ (x5_2 : Int)) = True := oT
          have q210 : (x5_2 < (l1_0.length : Int)) = True := oT
          obtain ⟨ad210, A210_3, c210_3, A210_4, c210_4, A210_5, c210_5, e210, hx210_0, hx210_1, hx210_2, hx210_3, hx210_4, hx210_5, hl210_3, hi210_3, hl210_4, hi210_4, hl210_5, hi210_5⟩ := at_T45 HR1_0.out x5_2 oa oa
          have hw210_5 := hx210_5
          have hw210_4 := hx210_4
          have hw210_3 := hx210_3
          have hw210_2 := hx210_2
          have hw210_1 := hx210_1
          have hw210_0 := hx210_0
          cases e210
          replace hx210_0 := cB HB hx210_0
          replace hx210_1 := cB HB hx210_1
          replace hx210_2 := cB HB hx210_2
          replace hx210_3 := cB HB hx210_3
          replace hx210_4 := cB HB hx210_4
          replace hx210_5 := cB HB hx210_5
          have HR210_3 := Aside0.mk hi210_3
          have HC210_3 := Aside0.mk hl210_3
          clear hi210_3 hl210_3
          have HR210_4 := Aside0.mk hi210_4
          have HC210_4 := Aside0.mk hl210_4
          clear hi210_4 hl210_4
          have HR210_5 := Aside0.mk hi210_5
          have HC210_5 := Aside0.mk hl210_5
          clear hi210_5 hl210_5
          refine st_ 12 (fun w' => w'.cell? ⟨gb207, 0, none⟩ = some (.slice (some ad209) l0_0.length c0_0) ∧ w'.cell? ⟨gb207, 1, none⟩ = some (.int .i64 a0_1) ∧ w'.cell? ⟨gb208, 0, none⟩ = some (.slice (some ad210) l1_0.length c1_0) ∧ w'.cell? ⟨gb208, 1, none⟩ = some (.int .i64 a1_1) ∧ w'.cell? (ad209.add ((x5_2).toNat * 6)) = some (.int .i64 ((rd_T45 l0_0 x5_2).f0)) ∧ w'.cell? ⟨(ad209.add ((x5_2).toNat * 6)).block, (ad209.add ((x5_2).toNat * 6)).off + 1, none⟩ = some (.int .i64 ((rd_T45 l0_0 x5_2).f1)) ∧ w'.cell? ⟨(ad209.add ((x5_2).toNat * 6)).block, (ad209.add ((x5_2).toNat * 6)).off + 2, none⟩ = some (.int .i64 ((rd_T45 l0_0 x5_2).f2)) ∧ w'.cell? ⟨(ad209.add ((x5_2).toNat * 6)).block, (ad209.add ((x5_2).toNat * 6)).off + 3, none⟩ = some (.slice A209_3 ((rd_T45 l0_0 x5_2).f3).length c209_3) ∧ w'.cell? ⟨(ad209.add ((x5_2).toNat * 6)).block, (ad209.add ((x5_2).toNat * 6)).off + 4, none⟩ = some (.slice A209_4 ((rd_T45 l0_0 x5_2).f4).length c209_4) ∧ w'.cell? ⟨(ad209.add ((x5_2).toNat * 6)).block, (ad209.add ((x5_2).toNat * 6)).off + 5, none⟩ = some (.slice A209_5 ((rd_T45 l0_0 x5_2).f5).length c209_5) ∧ w'.cell? (ad210.add ((x5_2).toNat * 6)) = some (.int .i64 ((rd_T45 l1_0 x5_2).f0)) ∧ w'.cell? ⟨(ad210.add ((x5_2).toNat * 6)).block, (ad210.add ((x5_2).toNat * 6)).off + 1, none⟩ = some (.int .i64 ((rd_T45 l1_0 x5_2).f1)) ∧ w'.cell? ⟨(ad210.add ((x5_2).toNat * 6)).block, (ad210.add ((x5_2).toNat * 6)).off + 2, none⟩ = some (.int .i64 ((rd_T45 l1_0 x5_2).f2)) ∧ w'.cell? ⟨(ad210.add ((x5_2).toNat * 6)).block, (ad210.add ((x5_2).toNat * 6)).off + 3, none⟩ = some (.slice A210_3 ((rd_T45 l1_0 x5_2).f3).length c210_3) ∧ w'.cell? ⟨(ad210.add ((x5_2).toNat * 6)).block, (ad210.add ((x5_2).toNat * 6)).off + 4, none⟩ = some (.slice A210_4 ((rd_T45 l1_0 x5_2).f4).length c210_4) ∧ w'.cell? ⟨(ad210.add ((x5_2).toNat * 6)).block, (ad210.add ((x5_2).toNat * 6)).off + 5, none⟩ = some (.slice A210_5 ((rd_T45 l1_0 x5_2).f5).length c210_5)) spec_SameTab.tab6 spec_SameTab.bits6 ⟨(blk_cell BK207.out 0).trans rfl, (blk_cell BK207.out 1).trans rfl, (blk_cell BK208.out 0).trans rfl, (blk_cell BK208.out 1).trans rfl, (cB HB hw209_0), (cB HB hw209_1), (cB HB hw209_2), (cB HB hw209_3), (cB HB hw209_4), (cB HB hw209_5), (cB HB hw210_0), (cB HB hw210_1), (cB HB hw210_2), (cB HB hw210_3), (cB HB hw210_4), (cB HB hw210_5)⟩ (fun hHeld HT_ HW_ => ?_)
          generalize wr.drew = w25 at BK207 BK208 HB HR209_3 HR209_4 HR209_5 HR210_3 HR210_4 HR210_5 hx209_0 hx209_1 hx209_2 hx209_3 hx209_4 hx209_5 hx210_0 hx210_1 hx210_2 hx210_3 hx210_4 hx210_5 hHeld ⊢
          refine pu_ 0 27 HT_ ?_
          refine pu_ 2 29 HT_ ?_
          refine pu_ 5 32 HT_ ?_
          refine pu_ 7 34 HT_ ?_
          refine ta_ 1 28 HT_ HW_ hHeld ?_
          refine pu_ 3 30 HT_ ?_
          refine ta_ 4 31 HT_ HW_ hHeld ?_
          refine ta_ 6 33 HT_ HW_ hHeld ?_
          refine pu_ 8 35 HT_ ?_
          refine ta_ 9 36 HT_ HW_ hHeld ?_
          refine on_ 10 37 HT_ (fun K hK => ?_)
          refine gr_ 37 Try.func29 (spec_SameInode.calls k2 ((rd_T45 l0_0 x5_2).f0) ((rd_T45 l0_0 x5_2).f1) ((rd_T45 l0_0 x5_2).f2) _ _ ((rd_T45 l0_0 x5_2).f3) _ _ ((rd_T45 l0_0 x5_2).f4) _ _ ((rd_T45 l0_0 x5_2).f5) ((rd_T45 l1_0 x5_2).f0) ((rd_T45 l1_0 x5_2).f1) ((rd_T45 l1_0 x5_2).f2) _ _ ((rd_T45 l1_0 x5_2).f3) _ _ ((rd_T45 l1_0 x5_2).f4) _ _ ((rd_T45 l1_0 x5_2).f5) false _ (kC HR209_3) HC209_3.out (kC HR209_4) HC209_4.out (kC HR209_5) HC209_5.out (kC HR210_3) HC210_3.out (kC HR210_4) HC210_4.out (kC HR210_5) HC210_5.out A17.out) ?_
          rintro e w26 ⟨rfl, hb⟩
          refine ⟨_, rfl, ?_⟩
          replace BK207 := kb_ BK207 hb
          replace BK208 := kb_ BK208 hb
          replace HB := Aside0.mk (below_step oB hb)
          refine hk_ hK 37 ⟨(blk_cell BK207.out 0).trans rfl, (blk_cell BK207.out 1).trans rfl, (blk_cell BK208.out 0).trans rfl, (blk_cell BK208.out 1).trans rfl, (cB HB hw209_0), (cB HB hw209_1), (cB HB hw209_2), (cB HB hw209_3), (cB HB hw209_4), (cB HB hw209_5), (cB HB hw210_0), (cB HB hw210_1), (cB HB hw210_2), (cB HB hw210_3), (cB HB hw210_4), (cB HB hw210_5)⟩ (fun hHeld => ?_)
          clear hK K
          refine pu_ 11 38 HT_ ?_
          refine dn_ HT_ ?_
          try go_wp2
          go_ret
          exact ⟨oE, oB⟩
        ·cases H
       ·cases H
      ·obtain rfl := Option.some.inj H
       have hnb27 := NB207_208.out
       have hnc27 := NB208_207.out
       obtain ⟨⟨_, _⟩, _, _⟩ := z2 BK207
       go_wp2
       go_ret
       exact ⟨oE, oB⟩

/-! ### slices_Equal_byte_byte: function 80 -/
def slices_Equal_byte_byte.l0 : Nat → List Int → List Int → Int → Int → Option (Bool)
 | 0, _, _, _, _ => none
 | k + 1, x0, x1, x12, x13 => if x13 < x12 then (if 0 ≤ x13 then (if x13 < (x0.length : Int) then (if x13 < (x1.length : Int) then (if (rd x0 x13) = (rd x1 x13) then (slices_Equal_byte_byte.l0 k x0 x1 x12 (wrap64 (x13 + 1))) else (some false)) else (none)) else (none)) else (none)) else (some true)
def slices_Equal_byte_byte.f (k : Nat) (l0 : List Int) (l1 : List Int) : Option (Bool) := if (l0.length : Int) = (l1.length : Int) then (slices_Equal_byte_byte.l0 k l0 l1 (l0.length : Int) 0) else (some false)
set_option maxHeartbeats 8000000 in
set_option maxRecDepth 100000 in
theorem slices_Equal_byte_byte.calls (k : Nat) (A0 : Option Addr) (c0 : Nat) (l0 : List Int) (A1 : Option Addr) (c1 : Nat) (l1 : List Int) (r : Bool) (w : World) (hr0 : Kd.C (Kd.int .u8) w A0 l0.length l0) (hc0 : l0.length ≤ c0) (hr1 : Kd.C (Kd.int .u8) w A1 l1.length l1) (hc1 : l1.length ≤ c1) (h : slices_Equal_byte_byte.f k l0 l1 = some r) :
  Calls Try.prog 80 #[.slice A0 l0.length c0, .slice A1 l1.length c1] w fun e w' => e = .returned (.bool r) ∧ Drawn0 w w' := by
 have HR0 := Aside0.mk hr0
 have HC0 := Aside0.mk hc0
 clear hr0 hc0
 have HR1 := Aside0.mk hr1
 have HC1 := Aside0.mk hc1
 clear hr1 hc1
 unfold slices_Equal_byte_byte.f at h
 have H := h
 clear h
 by_cases c3 : (l0.length : Int) = (l1.length : Int)
 ·rw [if_pos c3] at H
  have c3b0 : ((l0.length : Int) == (l1.length : Int)) = true := beq_iff_eq.mpr c3
  have c3b1 : ((l0.length : Int) != (l1.length : Int)) = false := bne_eq_false_iff_eq.mpr c3
  have c3b2 : (l0.length == l1.length) = true := by first | simpa using c3 | (simp at c3 ⊢; omega)
  clear c3
  have H' := Aside0.mk H
  clear H
  go_enter Try.func80, Try.ntmps80
  go_wp2
  repeat (go_quiet (fail); try go_wp2)
  go_loopg [13] k (fun kq v13 w' => ∃ (x13_1 : Int), v13 = .int .i64 x13_1 ∧ Aside0 (slices_Equal_byte_byte.l0 kq l0 l1 (l0.length : Int) x13_1 = some r) ∧ Aside0 (kq ≤ k) ∧ Drawn0 w w')
  case atStart => exact ⟨(0), oS, H', ⟨Nat.le_refl _⟩, oD⟩
  case round =>
   clear H'
   try clear c1
   try clear c3
   obtain ⟨x13_1, rfl, HA, HK1, ⟨m1, rfl⟩⟩ := hrel
   cases gk with
   | zero => exact absurd HA.out (by simp [slices_Equal_byte_byte.l0])
   | succ k1 =>
    have H := HA.out
    clear HA
    simp only [slices_Equal_byte_byte.l0] at H
    replace H := itD H
    rcases H with ⟨c4b0, H⟩ | ⟨c4b0, H⟩
    ·replace H := itD H
     rcases H with ⟨c5b0, H⟩ | ⟨c5b0, H⟩
     ·replace H := itD H
      rcases H with ⟨c6b0, H⟩ | ⟨c6b0, H⟩
      ·replace H := itD H
       rcases H with ⟨c7b0, H⟩ | ⟨c7b0, H⟩
       ·by_cases c8 : (rd l0 x13_1) = (rd l1 x13_1)
        ·rw [if_pos c8] at H
         have c8b0 : ((rd l0 x13_1) == (rd l1 x13_1)) = true := beq_iff_eq.mpr c8
         have c8b1 : ((rd l0 x13_1) != (rd l1 x13_1)) = false := bne_eq_false_iff_eq.mpr c8
         clear c8
         have H' := Aside0.mk H
         clear H
         have p212 : (0 ≤ (x13_1 : Int)) = True := oT
         have q212 : (x13_1 < (l0.length : Int)) = True := oT
         obtain ⟨ad212, e212, hx212_0⟩ := Kd.at_int HR0.out x13_1 oa oa
         cases e212
         have p213 : (0 ≤ (x13_1 : Int)) = True := oT
         have q213 : (x13_1 < (l1.length : Int)) = True := oT
         obtain ⟨ad213, e213, hx213_0⟩ := Kd.at_int HR1.out x13_1 oa oa
         cases e213
         go_wp2
         repeat (go_quiet (fail); try go_wp2)
         go_roundg k1
         case measure => have := HK1.out; omega
         case rel => exact ⟨(wrap64 (x13_1 + 1)), oS, H', ⟨by have := HK1.out; omega⟩, oD⟩
        ·rw [if_neg c8] at H
         have c8b0 : ((rd l0 x13_1) == (rd l1 x13_1)) = false := beq_eq_false_iff_ne.mpr c8
         have c8b1 : ((rd l0 x13_1) != (rd l1 x13_1)) = true := bne_iff_ne.mpr c8
         obtain rfl := Option.some.inj H
         have p212 : (0 ≤ (x13_1 : Int)) = True := oT
         have q212 : (x13_1 < (l0.length : Int)) = True := oT
         obtain ⟨ad212, e212, hx212_0⟩ := Kd.at_int HR0.out x13_1 oa oa
         cases e212
         have p213 : (0 ≤ (x13_1 : Int)) = True := oT
         have q213 : (x13_1 < (l1.length : Int)) = True := oT
         obtain ⟨ad213, e213, hx213_0⟩ := Kd.at_int HR1.out x13_1 oa oa
         cases e213
         go_wp2
         repeat (go_quiet (fail); try go_wp2)
         go_ret
         exact ⟨oS, oD⟩
       ·cases H
      ·cases H
     ·cases H
    ·obtain rfl := Option.some.inj H
     go_wp2
     repeat (go_quiet (fail); try go_wp2)
     go_ret
     exact ⟨oS, oD⟩
 ·rw [if_neg c3] at H
  have c3b0 : ((l0.length : Int) == (l1.length : Int)) = false := beq_eq_false_iff_ne.mpr c3
  have c3b1 : ((l0.length : Int) != (l1.length : Int)) = true := bne_iff_ne.mpr c3
  have c3b2 : (l0.length == l1.length) = false := by first | simpa using c3 | (simp at c3 ⊢; omega)
  obtain rfl := Option.some.inj H
  go_enter Try.func80, Try.ntmps80
  go_wp2
  repeat (go_quiet (fail); try go_wp2)
  go_ret
  exact ⟨oS, oD⟩

/-! ### slices_Equal_Ent: function 81 -/
def slices_Equal_Ent.l0 : Nat → List (S83) → List (S83) → Int → Int → Option (Bool)
 | 0, _, _, _, _ => none
 | k + 1, x0, x1, x12, x13 => if x13 < x12 then (if 0 ≤ x13 then (if x13 < (x0.length : Int) then (if x13 < (x1.length : Int) then (if (!((((rd_T83 x0 x13).f0).toList) == (((rd_T83 x1 x13).f0).toList)) || (!(((rd_T83 x0 x13).f1) == ((rd_T83 x1 x13).f1)))) = true then (some false) else (slices_Equal_Ent.l0 k x0 x1 x12 (wrap64 (x13 + 1)))) else (none)) else (none)) else (none)) else (some true)
def slices_Equal_Ent.f (k : Nat) (l0 : List (S83)) (l1 : List (S83)) : Option (Bool) := if (l0.length : Int) = (l1.length : Int) then (slices_Equal_Ent.l0 k l0 l1 (l0.length : Int) 0) else (some false)
set_option maxHeartbeats 8000000 in
set_option maxRecDepth 100000 in
theorem slices_Equal_Ent.calls (k : Nat) (A0 : Option Addr) (c0 : Nat) (l0 : List (S83)) (A1 : Option Addr) (c1 : Nat) (l1 : List (S83)) (r : Bool) (w : World) (hr0 : Kd.C k83 w A0 l0.length l0) (hc0 : l0.length ≤ c0) (hr1 : Kd.C k83 w A1 l1.length l1) (hc1 : l1.length ≤ c1) (h : slices_Equal_Ent.f k l0 l1 = some r) :
  Calls Try.prog 81 #[.slice A0 l0.length c0, .slice A1 l1.length c1] w fun e w' => e = .returned (.bool r) ∧ Drawn0 w w' := by
 have hu83 := Try.underlying83
 have HR0 := Aside0.mk hr0
 have HC0 := Aside0.mk hc0
 clear hr0 hc0
 have HR1 := Aside0.mk hr1
 have HC1 := Aside0.mk hc1
 clear hr1 hc1
 unfold slices_Equal_Ent.f at h
 have H := h
 clear h
 by_cases c3 : (l0.length : Int) = (l1.length : Int)
 ·rw [if_pos c3] at H
  have c3b0 : ((l0.length : Int) == (l1.length : Int)) = true := beq_iff_eq.mpr c3
  have c3b1 : ((l0.length : Int) != (l1.length : Int)) = false := bne_eq_false_iff_eq.mpr c3
  have c3b2 : (l0.length == l1.length) = true := by first | simpa using c3 | (simp at c3 ⊢; omega)
  clear c3
  have H' := Aside0.mk H
  clear H
  go_enter Try.func81, Try.ntmps81
  go_wp2
  repeat (go_quiet (fail); try go_wp2)
  go_loopg [13] k (fun kq v13 w' => ∃ (x13_1 : Int), v13 = .int .i64 x13_1 ∧ Aside0 (slices_Equal_Ent.l0 kq l0 l1 (l0.length : Int) x13_1 = some r) ∧ Aside0 (kq ≤ k) ∧ Drawn0 w w')
  case atStart => exact ⟨(0), oS, H', ⟨Nat.le_refl _⟩, oD⟩
  case round =>
   clear H'
   try clear c1
   try clear c3
   obtain ⟨x13_1, rfl, HA, HK1, ⟨m1, rfl⟩⟩ := hrel
   cases gk with
   | zero => exact absurd HA.out (by simp [slices_Equal_Ent.l0])
   | succ k1 =>
    have H := HA.out
    clear HA
    simp only [slices_Equal_Ent.l0] at H
    replace H := itD H
    rcases H with ⟨c4b0, H⟩ | ⟨c4b0, H⟩
    ·replace H := itD H
     rcases H with ⟨c5b0, H⟩ | ⟨c5b0, H⟩
     ·replace H := itD H
      rcases H with ⟨c6b0, H⟩ | ⟨c6b0, H⟩
      ·replace H := itD H
       rcases H with ⟨c7b0, H⟩ | ⟨c7b0, H⟩
       ·by_cases c8 : (!((((rd_T83 l0 x13_1).f0).toList) == (((rd_T83 l1 x13_1).f0).toList)) || (!(((rd_T83 l0 x13_1).f1) == ((rd_T83 l1 x13_1).f1)))) = true
        ·rw [if_pos c8] at H
         have c8b0 : (!((((rd_T83 l0 x13_1).f0).toList) == (((rd_T83 l1 x13_1).f0).toList)) || (!(((rd_T83 l0 x13_1).f1) == ((rd_T83 l1 x13_1).f1)))) = true := c8
         clear c8
         obtain rfl := Option.some.inj H
         have p214 : (0 ≤ (x13_1 : Int)) = True := oT
         have q214 : (x13_1 < (l0.length : Int)) = True := oT
         obtain ⟨ad214, e214, hx214_0, hx214_1⟩ := at_T83 HR0.out x13_1 oa oa
         cases e214
         have p215 : (0 ≤ (x13_1 : Int)) = True := oT
         have q215 : (x13_1 < (l1.length : Int)) = True := oT
         obtain ⟨ad215, e215, hx215_0, hx215_1⟩ := at_T83 HR1.out x13_1 oa oa
         cases e215
         go_wp2
         repeat (go_quiet (fail); try go_wp2)
         go_ret
         exact ⟨oS, oD⟩
        ·rw [if_neg c8] at H
         have c8b0 : (!((((rd_T83 l0 x13_1).f0).toList) == (((rd_T83 l1 x13_1).f0).toList)) || (!(((rd_T83 l0 x13_1).f1) == ((rd_T83 l1 x13_1).f1)))) = false := by simpa using c8
         clear c8
         have H' := Aside0.mk H
         clear H
         have p214 : (0 ≤ (x13_1 : Int)) = True := oT
         have q214 : (x13_1 < (l0.length : Int)) = True := oT
         obtain ⟨ad214, e214, hx214_0, hx214_1⟩ := at_T83 HR0.out x13_1 oa oa
         cases e214
         have p215 : (0 ≤ (x13_1 : Int)) = True := oT
         have q215 : (x13_1 < (l1.length : Int)) = True := oT
         obtain ⟨ad215, e215, hx215_0, hx215_1⟩ := at_T83 HR1.out x13_1 oa oa
         cases e215
         go_wp2
         repeat (go_quiet (fail); try go_wp2)
         go_roundg k1
         case measure => have := HK1.out; omega
         case rel => exact ⟨(wrap64 (x13_1 + 1)), oS, H', ⟨by have := HK1.out; omega⟩, oD⟩
       ·cases H
      ·cases H
     ·cases H
    ·obtain rfl := Option.some.inj H
     go_wp2
     repeat (go_quiet (fail); try go_wp2)
     go_ret
     exact ⟨oS, oD⟩
 ·rw [if_neg c3] at H
  have c3b0 : ((l0.length : Int) == (l1.length : Int)) = false := beq_eq_false_iff_ne.mpr c3
  have c3b1 : ((l0.length : Int) != (l1.length : Int)) = true := bne_iff_ne.mpr c3
  have c3b2 : (l0.length == l1.length) = false := by first | simpa using c3 | (simp at c3 ⊢; omega)
  obtain rfl := Option.some.inj H
  go_enter Try.func81, Try.ntmps81
  go_wp2
  repeat (go_quiet (fail); try go_wp2)
  go_ret
  exact ⟨oS, oD⟩

/-! ### slices_Equal_Attr: function 82 -/
def slices_Equal_Attr.l0 : Nat → List (S85) → List (S85) → Int → Int → Option (Bool)
 | 0, _, _, _, _ => none
 | k + 1, x0, x1, x12, x13 => if x13 < x12 then (if 0 ≤ x13 then (if x13 < (x0.length : Int) then (if x13 < (x1.length : Int) then (if (!((((rd_T85 x0 x13).f0).toList) == (((rd_T85 x1 x13).f0).toList)) || (!((((rd_T85 x0 x13).f1).toList) == (((rd_T85 x1 x13).f1).toList)))) = true then (some false) else (slices_Equal_Attr.l0 k x0 x1 x12 (wrap64 (x13 + 1)))) else (none)) else (none)) else (none)) else (some true)
def slices_Equal_Attr.f (k : Nat) (l0 : List (S85)) (l1 : List (S85)) : Option (Bool) := if (l0.length : Int) = (l1.length : Int) then (slices_Equal_Attr.l0 k l0 l1 (l0.length : Int) 0) else (some false)
set_option maxHeartbeats 8000000 in
set_option maxRecDepth 100000 in
theorem slices_Equal_Attr.calls (k : Nat) (A0 : Option Addr) (c0 : Nat) (l0 : List (S85)) (A1 : Option Addr) (c1 : Nat) (l1 : List (S85)) (r : Bool) (w : World) (hr0 : Kd.C k85 w A0 l0.length l0) (hc0 : l0.length ≤ c0) (hr1 : Kd.C k85 w A1 l1.length l1) (hc1 : l1.length ≤ c1) (h : slices_Equal_Attr.f k l0 l1 = some r) :
  Calls Try.prog 82 #[.slice A0 l0.length c0, .slice A1 l1.length c1] w fun e w' => e = .returned (.bool r) ∧ Drawn0 w w' := by
 have hu85 := Try.underlying85
 have HR0 := Aside0.mk hr0
 have HC0 := Aside0.mk hc0
 clear hr0 hc0
 have HR1 := Aside0.mk hr1
 have HC1 := Aside0.mk hc1
 clear hr1 hc1
 unfold slices_Equal_Attr.f at h
 have H := h
 clear h
 by_cases c3 : (l0.length : Int) = (l1.length : Int)
 ·rw [if_pos c3] at H
  have c3b0 : ((l0.length : Int) == (l1.length : Int)) = true := beq_iff_eq.mpr c3
  have c3b1 : ((l0.length : Int) != (l1.length : Int)) = false := bne_eq_false_iff_eq.mpr c3
  have c3b2 : (l0.length == l1.length) = true := by first | simpa using c3 | (simp at c3 ⊢; omega)
  clear c3
  have H' := Aside0.mk H
  clear H
  go_enter Try.func82, Try.ntmps82
  go_wp2
  repeat (go_quiet (fail); try go_wp2)
  go_loopg [13] k (fun kq v13 w' => ∃ (x13_1 : Int), v13 = .int .i64 x13_1 ∧ Aside0 (slices_Equal_Attr.l0 kq l0 l1 (l0.length : Int) x13_1 = some r) ∧ Aside0 (kq ≤ k) ∧ Drawn0 w w')
  case atStart => exact ⟨(0), oS, H', ⟨Nat.le_refl _⟩, oD⟩
  case round =>
   clear H'
   try clear c1
   try clear c3
   obtain ⟨x13_1, rfl, HA, HK1, ⟨m1, rfl⟩⟩ := hrel
   cases gk with
   | zero => exact absurd HA.out (by simp [slices_Equal_Attr.l0])
   | succ k1 =>
    have H := HA.out
    clear HA
    simp only [slices_Equal_Attr.l0] at H
    replace H := itD H
    rcases H with ⟨c4b0, H⟩ | ⟨c4b0, H⟩
    ·replace H := itD H
     rcases H with ⟨c5b0, H⟩ | ⟨c5b0, H⟩
     ·replace H := itD H
      rcases H with ⟨c6b0, H⟩ | ⟨c6b0, H⟩
      ·replace H := itD H
       rcases H with ⟨c7b0, H⟩ | ⟨c7b0, H⟩
       ·by_cases c8 : (!((((rd_T85 l0 x13_1).f0).toList) == (((rd_T85 l1 x13_1).f0).toList)) || (!((((rd_T85 l0 x13_1).f1).toList) == (((rd_T85 l1 x13_1).f1).toList)))) = true
        ·rw [if_pos c8] at H
         have c8b0 : (!((((rd_T85 l0 x13_1).f0).toList) == (((rd_T85 l1 x13_1).f0).toList)) || (!((((rd_T85 l0 x13_1).f1).toList) == (((rd_T85 l1 x13_1).f1).toList)))) = true := c8
         clear c8
         obtain rfl := Option.some.inj H
         have p216 : (0 ≤ (x13_1 : Int)) = True := oT
         have q216 : (x13_1 < (l0.length : Int)) = True := oT
         obtain ⟨ad216, e216, hx216_0, hx216_1⟩ := at_T85 HR0.out x13_1 oa oa
         cases e216
         have p217 : (0 ≤ (x13_1 : Int)) = True := oT
         have q217 : (x13_1 < (l1.length : Int)) = True := oT
         obtain ⟨ad217, e217, hx217_0, hx217_1⟩ := at_T85 HR1.out x13_1 oa oa
         cases e217
         go_wp2
         repeat (go_quiet (fail); try go_wp2)
         go_ret
         exact ⟨oS, oD⟩
        ·rw [if_neg c8] at H
         have c8b0 : (!((((rd_T85 l0 x13_1).f0).toList) == (((rd_T85 l1 x13_1).f0).toList)) || (!((((rd_T85 l0 x13_1).f1).toList) == (((rd_T85 l1 x13_1).f1).toList)))) = false := by simpa using c8
         clear c8
         have H' := Aside0.mk H
         clear H
         have p216 : (0 ≤ (x13_1 : Int)) = True := oT
         have q216 : (x13_1 < (l0.length : Int)) = True := oT
         obtain ⟨ad216, e216, hx216_0, hx216_1⟩ := at_T85 HR0.out x13_1 oa oa
         cases e216
         have p217 : (0 ≤ (x13_1 : Int)) = True := oT
         have q217 : (x13_1 < (l1.length : Int)) = True := oT
         obtain ⟨ad217, e217, hx217_0, hx217_1⟩ := at_T85 HR1.out x13_1 oa oa
         cases e217
         go_wp2
         repeat (go_quiet (fail); try go_wp2)
         go_roundg k1
         case measure => have := HK1.out; omega
         case rel => exact ⟨(wrap64 (x13_1 + 1)), oS, H', ⟨by have := HK1.out; omega⟩, oD⟩
       ·cases H
      ·cases H
     ·cases H
    ·obtain rfl := Option.some.inj H
     go_wp2
     repeat (go_quiet (fail); try go_wp2)
     go_ret
     exact ⟨oS, oD⟩
 ·rw [if_neg c3] at H
  have c3b0 : ((l0.length : Int) == (l1.length : Int)) = false := beq_eq_false_iff_ne.mpr c3
  have c3b1 : ((l0.length : Int) != (l1.length : Int)) = true := bne_iff_ne.mpr c3
  have c3b2 : (l0.length == l1.length) = false := by first | simpa using c3 | (simp at c3 ⊢; omega)
  obtain rfl := Option.some.inj H
  go_enter Try.func82, Try.ntmps82
  go_wp2
  repeat (go_quiet (fail); try go_wp2)
  go_ret
  exact ⟨oS, oD⟩

/-! ### impl_SameInode: function 31 -/
def impl_SameInode.f (k : Nat) (a0_0 : Int) (a0_1 : Int) (a0_2 : Int) (l0_3 : List Int) (l0_4 : List (S83)) (l0_5 : List (S85)) (a1_0 : Int) (a1_1 : Int) (a1_2 : Int) (l1_3 : List Int) (l1_4 : List (S83)) (l1_5 : List (S85)) : Option (Bool) := if a0_0 = a1_0 then (if a0_1 = a1_1 then (if a0_2 = a1_2 then ((slices_Equal_byte_byte.f k l0_3 l1_3).bind fun t220 => (if t220 = true then ((slices_Equal_Ent.f k l0_4 l1_4).bind fun t221 => (if t221 = true then ((slices_Equal_Attr.f k l0_5 l1_5).bind fun t222 => (some t222)) else (some false))) else (some false))) else (some false)) else (some false)) else (some false)
set_option maxHeartbeats 8000000 in
set_option maxRecDepth 100000 in
theorem impl_SameInode.calls (k : Nat) (a0_0 : Int) (a0_1 : Int) (a0_2 : Int) (A0_3 : Option Addr) (c0_3 : Nat) (l0_3 : List Int) (A0_4 : Option Addr) (c0_4 : Nat) (l0_4 : List (S83)) (A0_5 : Option Addr) (c0_5 : Nat) (l0_5 : List (S85)) (a1_0 : Int) (a1_1 : Int) (a1_2 : Int) (A1_3 : Option Addr) (c1_3 : Nat) (l1_3 : List Int) (A1_4 : Option Addr) (c1_4 : Nat) (l1_4 : List (S83)) (A1_5 : Option Addr) (c1_5 : Nat) (l1_5 : List (S85)) (r : Bool) (w : World) (hr0_3 : Kd.C (Kd.int .u8) w A0_3 l0_3.length l0_3) (hc0_3 : l0_3.length ≤ c0_3) (hr0_4 : Kd.C k83 w A0_4 l0_4.length l0_4) (hc0_4 : l0_4.length ≤ c0_4) (hr0_5 : Kd.C k85 w A0_5 l0_5.length l0_5) (hc0_5 : l0_5.length ≤ c0_5) (hr1_3 : Kd.C (Kd.int .u8) w A1_3 l1_3.length l1_3) (hc1_3 : l1_3.length ≤ c1_3) (hr1_4 : Kd.C k83 w A1_4 l1_4.length l1_4) (hc1_4 : l1_4.length ≤ c1_4) (hr1_5 : Kd.C k85 w A1_5 l1_5.length l1_5) (hc1_5 : l1_5.length ≤ c1_5) (h : impl_SameInode.f k a0_0 a0_1 a0_2 l0_3 l0_4 l0_5 a1_0 a1_1 a1_2 l1_3 l1_4 l1_5 = some r) :
  Calls Try.prog 31 #[.agg #[.int .i64 a0_0, .int .i64 a0_1, .int .i64 a0_2, .slice A0_3 l0_3.length c0_3, .slice A0_4 l0_4.length c0_4, .slice A0_5 l0_5.length c0_5], .agg #[.int .i64 a1_0, .int .i64 a1_1, .int .i64 a1_2, .slice A1_3 l1_3.length c1_3, .slice A1_4 l1_4.length c1_4, .slice A1_5 l1_5.length c1_5]] w fun e w' => e = .returned (.bool r) ∧ Below w.heap.size w w' := by
 have hu45 := Try.underlying45
 have HR0_3 := Aside0.mk hr0_3
 have HC0_3 := Aside0.mk hc0_3
 clear hr0_3 hc0_3
 have HR0_4 := Aside0.mk hr0_4
 have HC0_4 := Aside0.mk hc0_4
 clear hr0_4 hc0_4
 have HR0_5 := Aside0.mk hr0_5
 have HC0_5 := Aside0.mk hc0_5
 clear hr0_5 hc0_5
 have HR1_3 := Aside0.mk hr1_3
 have HC1_3 := Aside0.mk hc1_3
 clear hr1_3 hc1_3
 have HR1_4 := Aside0.mk hr1_4
 have HC1_4 := Aside0.mk hc1_4
 clear hr1_4 hc1_4
 have HR1_5 := Aside0.mk hr1_5
 have HC1_5 := Aside0.mk hc1_5
 clear hr1_5 hc1_5
 have HB := Aside0.mk (Below.refl w.heap.size w)
 unfold impl_SameInode.f at h
 have H := h
 clear h
 by_cases c3 : a0_0 = a1_0
 ·rw [if_pos c3] at H
  have c3b0 : (a0_0 == a1_0) = true := beq_iff_eq.mpr c3
  have c3b1 : (a0_0 != a1_0) = false := bne_eq_false_iff_eq.mpr c3
  clear c3
  by_cases c4 : a0_1 = a1_1
  ·rw [if_pos c4] at H
   have c4b0 : (a0_1 == a1_1) = true := beq_iff_eq.mpr c4
   have c4b1 : (a0_1 != a1_1) = false := bne_eq_false_iff_eq.mpr c4
   clear c4
   by_cases c5 : a0_2 = a1_2
   ·rw [if_pos c5] at H
    have c5b0 : (a0_2 == a1_2) = true := beq_iff_eq.mpr c5
    have c5b1 : (a0_2 != a1_2) = false := bne_eq_false_iff_eq.mpr c5
    clear c5
    replace H := bA H
    obtain ⟨t220, A6, H⟩ := H
    try dsimp only at H
    replace H := itB H
    rcases H with ⟨rfl, H⟩ | ⟨rfl, H⟩
    ·replace H := bA H
     obtain ⟨t221, A8, H⟩ := H
     try dsimp only at H
     replace H := itB H
     rcases H with ⟨rfl, H⟩ | ⟨rfl, H⟩
     ·replace H := bA H
      obtain ⟨t222, A10, H⟩ := H
      try dsimp only at H
      obtain rfl := Option.some.inj H
      go_enter Try.func31, Try.ntmps31
      go_wp2_with (first | ((with_reducible refine gate_dst (N := 2) rfl ?_); refine bx_ 2 #[.int .i64 a0_0, .int .i64 a0_1, .int .i64 a0_2, .slice A0_3 l0_3.length c0_3, .slice A0_4 l0_4.length c0_4, .slice A0_5 l0_5.length c0_5] 45 ?_; intro gb218 hg w11 hbox hb; have BK218 := Aside0.mk (hbox); have GW218 := gs_ hg; have GE218 := gs_ hg; replace HB := Aside0.mk (below_step oB hb); clear hb hbox hg) | ((with_reducible refine gate_dst (N := 3) rfl ?_); refine bx_ 3 #[.int .i64 a1_0, .int .i64 a1_1, .int .i64 a1_2, .slice A1_3 l1_3.length c1_3, .slice A1_4 l1_4.length c1_4, .slice A1_5 l1_5.length c1_5] 45 ?_; intro gb219 hg w12 hbox hb; have BK219 := Aside0.mk (hbox); have GW219 := gs_ hg; have GE219 := gs_ hg; have NB218_219 := nl_ hg BK218; have NB219_218 := nr_ hg BK218; replace BK218 := kb_ BK218 hb; replace HB := Aside0.mk (below_step oB hb); clear hb hbox hg; have hnb13 := NB218_219.out; have hnc13 := NB219_218.out; obtain ⟨⟨_, _, _, _, _, _⟩, _, _, _, _, _, _⟩ := z6 BK218; obtain ⟨⟨_, _, _, _, _, _⟩, _, _, _, _, _, _⟩ := z6 BK219) | (go_at_call 80; (with_reducible refine (slices_Equal_byte_byte.calls k _ _ l0_3 _ _ l1_3 true _ (kC HR0_3) HC0_3.out (kC HR1_3) HC1_3.out A6.out).mono ?_); rintro e w' ⟨rfl, ⟨nd, rfl⟩⟩) | (go_at_call 81; (with_reducible refine (slices_Equal_Ent.calls k _ _ l0_4 _ _ l1_4 true _ (kC HR0_4) HC0_4.out (kC HR1_4) HC1_4.out A8.out).mono ?_); rintro e w' ⟨rfl, ⟨nd, rfl⟩⟩) | (go_at_call 82; (with_reducible refine (slices_Equal_Attr.calls k _ _ l0_5 _ _ l1_5 t222 _ (kC HR0_5) HC0_5.out (kC HR1_5) HC1_5.out A10.out).mono ?_); rintro e w' ⟨rfl, ⟨nd, rfl⟩⟩))
      go_ret
      exact ⟨oE, oB⟩
     ·obtain rfl := Option.some.inj H
      go_enter Try.func31, Try.ntmps31
      go_wp2_with (first | ((with_reducible refine gate_dst (N := 2) rfl ?_); refine bx_ 2 #[.int .i64 a0_0, .int .i64 a0_1, .int .i64 a0_2, .slice A0_3 l0_3.length c0_3, .slice A0_4 l0_4.length c0_4, .slice A0_5 l0_5.length c0_5] 45 ?_; intro gb218 hg w16 hbox hb; have BK218 := Aside0.mk (hbox); have GW218 := gs_ hg; have GE218 := gs_ hg; replace HB := Aside0.mk (below_step oB hb); clear hb hbox hg) | ((with_reducible refine gate_dst (N := 3) rfl ?_); refine bx_ 3 #[.int .i64 a1_0, .int .i64 a1_1, .int .i64 a1_2, .slice A1_3 l1_3.length c1_3, .slice A1_4 l1_4.length c1_4, .slice A1_5 l1_5.length c1_5] 45 ?_; intro gb219 hg w17 hbox hb; have BK219 := Aside0.mk (hbox); have GW219 := gs_ hg; have GE219 := gs_ hg; have NB218_219 := nl_ hg BK218; have NB219_218 := nr_ hg BK218; replace BK218 := kb_ BK218 hb; replace HB := Aside0.mk (below_step oB hb); clear hb hbox hg; have hnb18 := NB218_219.out; have hnc18 := NB219_218.out; obtain ⟨⟨_, _, _, _, _, _⟩, _, _, _, _, _, _⟩ := z6 BK218; obtain ⟨⟨_, _, _, _, _, _⟩, _, _, _, _, _, _⟩ := z6 BK219) | (go_at_call 80; (with_reducible refine (slices_Equal_byte_byte.calls k _ _ l0_3 _ _ l1_3 true _ (kC HR0_3) HC0_3.out (kC HR1_3) HC1_3.out A6.out).mono ?_); rintro e w' ⟨rfl, ⟨nd, rfl⟩⟩) | (go_at_call 81; (with_reducible refine (slices_Equal_Ent.calls k _ _ l0_4 _ _ l1_4 false _ (kC HR0_4) HC0_4.out (kC HR1_4) HC1_4.out A8.out).mono ?_); rintro e w' ⟨rfl, ⟨nd, rfl⟩⟩))
      go_ret
      exact ⟨oE, oB⟩
    ·obtain rfl := Option.some.inj H
     go_enter Try.func31, Try.ntmps31
     go_wp2_with (first | ((with_reducible refine gate_dst (N := 2) rfl ?_); refine bx_ 2 #[.int .i64 a0_0, .int .i64 a0_1, .int .i64 a0_2, .slice A0_3 l0_3.length c0_3, .slice A0_4 l0_4.length c0_4, .slice A0_5 l0_5.length c0_5] 45 ?_; intro gb218 hg w21 hbox hb; have BK218 := Aside0.mk (hbox); have GW218 := gs_ hg; have GE218 := gs_ hg; replace HB := Aside0.mk (below_step oB hb); clear hb hbox hg) | ((with_reducible refine gate_dst (N := 3) rfl ?_); refine bx_ 3 #[.int .i64 a1_0, .int .i64 a1_1, .int .i64 a1_2, .slice A1_3 l1_3.length c1_3, .slice A1_4 l1_4.length c1_4, .slice A1_5 l1_5.length c1_5] 45 ?_; intro gb219 hg w22 hbox hb; have BK219 := Aside0.mk (hbox); have GW219 := gs_ hg; have GE219 := gs_ hg; have NB218_219 := nl_ hg BK218; have NB219_218 := nr_ hg BK218; replace BK218 := kb_ BK218 hb; replace HB := Aside0.mk (below_step oB hb); clear hb hbox hg; have hnb23 := NB218_219.out; have hnc23 := NB219_218.out; obtain ⟨⟨_, _, _, _, _, _⟩, _, _, _, _, _, _⟩ := z6 BK218; obtain ⟨⟨_, _, _, _, _, _⟩, _, _, _, _, _, _⟩ := z6 BK219) | (go_at_call 80; (with_reducible refine (slices_Equal_byte_byte.calls k _ _ l0_3 _ _ l1_3 false _ (kC HR0_3) HC0_3.out (kC HR1_3) HC1_3.out A6.out).mono ?_); rintro e w' ⟨rfl, ⟨nd, rfl⟩⟩))
     go_ret
     exact ⟨oE, oB⟩
   ·rw [if_neg c5] at H
    have c5b0 : (a0_2 == a1_2) = false := beq_eq_false_iff_ne.mpr c5
    have c5b1 : (a0_2 != a1_2) = true := bne_iff_ne.mpr c5
    obtain rfl := Option.some.inj H
    go_enter Try.func31, Try.ntmps31
    go_wp2_with (first | ((with_reducible refine gate_dst (N := 2) rfl ?_); refine bx_ 2 #[.int .i64 a0_0, .int .i64 a0_1, .int .i64 a0_2, .slice A0_3 l0_3.length c0_3, .slice A0_4 l0_4.length c0_4, .slice A0_5 l0_5.length c0_5] 45 ?_; intro gb218 hg w26 hbox hb; have BK218 := Aside0.mk (hbox); have GW218 := gs_ hg; have GE218 := gs_ hg; replace HB := Aside0.mk (below_step oB hb); clear hb hbox hg) | ((with_reducible refine gate_dst (N := 3) rfl ?_); refine bx_ 3 #[.int .i64 a1_0, .int .i64 a1_1, .int .i64 a1_2, .slice A1_3 l1_3.length c1_3, .slice A1_4 l1_4.length c1_4, .slice A1_5 l1_5.length c1_5] 45 ?_; intro gb219 hg w27 hbox hb; have BK219 := Aside0.mk (hbox); have GW219 := gs_ hg; have GE219 := gs_ hg; have NB218_219 := nl_ hg BK218; have NB219_218 := nr_ hg BK218; replace BK218 := kb_ BK218 hb; replace HB := Aside0.mk (below_step oB hb); clear hb hbox hg; have hnb28 := NB218_219.out; have hnc28 := NB219_218.out; obtain ⟨⟨_, _, _, _, _, _⟩, _, _, _, _, _, _⟩ := z6 BK218; obtain ⟨⟨_, _, _, _, _, _⟩, _, _, _, _, _, _⟩ := z6 BK219))
    go_ret
    exact ⟨oE, oB⟩
  ·rw [if_neg c4] at H
   have c4b0 : (a0_1 == a1_1) = false := beq_eq_false_iff_ne.mpr c4
   have c4b1 : (a0_1 != a1_1) = true := bne_iff_ne.mpr c4
   obtain rfl := Option.some.inj H
   go_enter Try.func31, Try.ntmps31
   go_wp2_with (first | ((with_reducible refine gate_dst (N := 2) rfl ?_); refine bx_ 2 #[.int .i64 a0_0, .int .i64 a0_1, .int .i64 a0_2, .slice A0_3 l0_3.length c0_3, .slice A0_4 l0_4.length c0_4, .slice A0_5 l0_5.length c0_5] 45 ?_; intro gb218 hg w31 hbox hb; have BK218 := Aside0.mk (hbox); have GW218 := gs_ hg; have GE218 := gs_ hg; replace HB := Aside0.mk (below_step oB hb); clear hb hbox hg) | ((with_reducible refine gate_dst (N := 3) rfl ?_); refine bx_ 3 #[.int .i64 a1_0, .int .i64 a1_1, .int .i64 a1_2, .slice A1_3 l1_3.length c1_3, .slice A1_4 l1_4.length c1_4, .slice A1_5 l1_5.length c1_5] 45 ?_; intro gb219 hg w32 hbox hb; have BK219 := Aside0.mk (hbox); have GW219 := gs_ hg; have GE219 := gs_ hg; have NB218_219 := nl_ hg BK218; have NB219_218 := nr_ hg BK218; replace BK218 := kb_ BK218 hb; replace HB := Aside0.mk (below_step oB hb); clear hb hbox hg; have hnb33 := NB218_219.out; have hnc33 := NB219_218.out; obtain ⟨⟨_, _, _, _, _, _⟩, _, _, _, _, _, _⟩ := z6 BK218; obtain ⟨⟨_, _, _, _, _, _⟩, _, _, _, _, _, _⟩ := z6 BK219))
   go_ret
   exact ⟨oE, oB⟩
 ·rw [if_neg c3] at H
  have c3b0 : (a0_0 == a1_0) = false := beq_eq_false_iff_ne.mpr c3
  have c3b1 : (a0_0 != a1_0) = true := bne_iff_ne.mpr c3
  obtain rfl := Option.some.inj H
  go_enter Try.func31, Try.ntmps31
  go_wp2_with (first | ((with_reducible refine gate_dst (N := 2) rfl ?_); refine bx_ 2 #[.int .i64 a0_0, .int .i64 a0_1, .int .i64 a0_2, .slice A0_3 l0_3.length c0_3, .slice A0_4 l0_4.length c0_4, .slice A0_5 l0_5.length c0_5] 45 ?_; intro gb218 hg w36 hbox hb; have BK218 := Aside0.mk (hbox); have GW218 := gs_ hg; have GE218 := gs_ hg; replace HB := Aside0.mk (below_step oB hb); clear hb hbox hg) | ((with_reducible refine gate_dst (N := 3) rfl ?_); refine bx_ 3 #[.int .i64 a1_0, .int .i64 a1_1, .int .i64 a1_2, .slice A1_3 l1_3.length c1_3, .slice A1_4 l1_4.length c1_4, .slice A1_5 l1_5.length c1_5] 45 ?_; intro gb219 hg w37 hbox hb; have BK219 := Aside0.mk (hbox); have GW219 := gs_ hg; have GE219 := gs_ hg; have NB218_219 := nl_ hg BK218; have NB219_218 := nr_ hg BK218; replace BK218 := kb_ BK218 hb; replace HB := Aside0.mk (below_step oB hb); clear hb hbox hg; have hnb38 := NB218_219.out; have hnc38 := NB219_218.out; obtain ⟨⟨_, _, _, _, _, _⟩, _, _, _, _, _, _⟩ := z6 BK218; obtain ⟨⟨_, _, _, _, _, _⟩, _, _, _, _, _, _⟩ := z6 BK219))
  go_ret
  exact ⟨oE, oB⟩

-- NOT PRINTED: function 93 (slices_EqualFunc_Inode)

/-! ### impl_SameTab: function 42 -/
def sameR (k : Nat) : List S45 → List S45 → Option Bool
 | x :: l, y :: m => (impl_SameInode.f k x.f0 x.f1 x.f2 x.f3 x.f4 x.f5 y.f0 y.f1 y.f2 y.f3 y.f4 y.f5).bind fun t => if t = true then sameR k l m else some false
 | _, _ => some true
theorem sameR_at (k : Nat) (l m : List S45) (i : Nat) (h : i < l.length) (h' : i < m.length) : sameR k (l.drop i) (m.drop i) = (impl_SameInode.f k (rd_T45 l i).f0 (rd_T45 l i).f1 (rd_T45 l i).f2 (rd_T45 l i).f3 (rd_T45 l i).f4 (rd_T45 l i).f5 (rd_T45 m i).f0 (rd_T45 m i).f1 (rd_T45 m i).f2 (rd_T45 m i).f3 (rd_T45 m i).f4 (rd_T45 m i).f5).bind fun t => if t = true then sameR k (l.drop (i + 1)) (m.drop (i + 1)) else some false := by
 rw [List.drop_eq_getElem_cons h, List.drop_eq_getElem_cons h', sameR]
 simp [rd_T45, List.getD_eq_getElem?_getD, List.getElem?_eq_getElem h, List.getElem?_eq_getElem h']
set_option maxHeartbeats 1000000 in
set_option maxRecDepth 100000 in
theorem equalFunc_SameInode.calls (k : Nat) (A0 : Option Addr) (c0 : Nat) (l0 : List S45) (A1 : Option Addr) (c1 : Nat) (l1 : List S45) (r : Bool) (w : World) (hr0 : Kd.C k45 w A0 l0.length l0) (hr1 : Kd.C k45 w A1 l1.length l1) (hl : l0.length ≤ 9223372036854775807) (h : (if (l0.length : Int) = (l1.length : Int) then sameR k l0 l1 else some false) = some r) :
  Calls Try.prog 93 #[.slice A0 l0.length c0, .slice A1 l1.length c1, .func (.func 31) #[] #[]] w fun e w' => e = .returned (.bool r) ∧ Below w.heap.size w w' := by
 have HR0 := Aside0.mk hr0
 have HR1 := Aside0.mk hr1
 clear hr0 hr1
 have HB := Aside0.mk (Below.refl w.heap.size w)
 by_cases c : (l0.length : Int) = (l1.length : Int)
 ·rw [if_pos c] at h
  have e : l1.length = l0.length := by omega
  have E := Aside0.mk e
  have c0_ : ((l0.length : Int) != (l1.length : Int)) = false := bne_eq_false_iff_eq.mpr c
  have c1_ : (l0.length == l1.length) = true := by simp [e]
  have c2_ : (l0.length != l1.length) = false := by simp [e]
  clear c e
  have H' := Aside0.mk h
  clear h
  go_enter Try.func93, Try.ntmps93
  go_wp2
  go_loopg [7, 17] l0.length (fun gg _ s17 wr => ∃ kk : Nat, kk ≤ l0.length ∧ l0.length - kk ≤ gg ∧ s17 = .int .i64 kk ∧ Aside0 (Below w.heap.size w wr) ∧ Aside0 (sameR k (l0.drop kk) (l1.drop kk) = some r))
  case atStart => exact ⟨0, Nat.zero_le _, by omega, rfl, HB, H'⟩
  case round =>
   clear HB H'
   obtain ⟨kk, hkk, hg, rfl, HB, HA⟩ := hrel
   by_cases hlt : kk < l0.length
   ·have hltz : (kk : Int) < (l0.length : Int) := by omega
    have hlt1 : (kk : Int) < (l1.length : Int) := by have := E.out; omega
    have H := HA.out
    clear HA
    rw [sameR_at k l0 l1 kk hlt (by omega)] at H
    replace H := bA H
    obtain ⟨t, A, H⟩ := H
    obtain ⟨ad, A3, c3, A4, c4, A5, c5, e0, h0, h1, h2, h3, h4, h5, l3, i3, l4, i4, l5, i5⟩ := at_T45 HR0.out (kk : Int) (by omega) hltz
    obtain ⟨bd, B3, d3, B4, d4, B5, d5, e1, g0, g1, g2, g3, g4, g5, m3, j3, m4, j4, m5, j5⟩ := at_T45 HR1.out (kk : Int) (by omega) hlt1
    cases e0
    cases e1
    rw [Int.toNat_natCast] at h0 h1 h2 h3 h4 h5 g0 g1 g2 g3 g4 g5
    replace h0 := cB HB h0
    replace h1 := cB HB h1
    replace h2 := cB HB h2
    replace h3 := cB HB h3
    replace h4 := cB HB h4
    replace h5 := cB HB h5
    replace g0 := cB HB g0
    replace g1 := cB HB g1
    replace g2 := cB HB g2
    replace g3 := cB HB g3
    replace g4 := cB HB g4
    replace g5 := cB HB g5
    replace g0 := fun o => cB (W := wr.alloc o) ⟨below_alloc (Below.refl _ _) o⟩ g0
    replace g1 := fun o => cB (W := wr.alloc o) ⟨below_alloc (Below.refl _ _) o⟩ g1
    replace g2 := fun o => cB (W := wr.alloc o) ⟨below_alloc (Below.refl _ _) o⟩ g2
    replace g3 := fun o => cB (W := wr.alloc o) ⟨below_alloc (Below.refl _ _) o⟩ g3
    replace g4 := fun o => cB (W := wr.alloc o) ⟨below_alloc (Below.refl _ _) o⟩ g4
    replace g5 := fun o => cB (W := wr.alloc o) ⟨below_alloc (Below.refl _ _) o⟩ g5
    have I3 := Aside0.mk i3
    have I4 := Aside0.mk i4
    have I5 := Aside0.mk i5
    have J3 := Aside0.mk j3
    have J4 := Aside0.mk j4
    have J5 := Aside0.mk j5
    clear i3 i4 i5 j3 j4 j5
    cases t with
    | true =>
     have H' := Aside0.mk H
     clear H
     go_wp2_with (go_at_call 31; refine (impl_SameInode.calls k _ _ _ _ _ _ _ _ _ _ _ _ _ _ _ _ _ _ _ _ _ _ _ _ true _ (kC I3) l3 (kC I4) l4 (kC I5) l5 (kC J3) m3 (kC J4) m4 (kC J5) m5 A.out).mono ?_; rintro e w' ⟨rfl, hb⟩; replace HB := Aside0.mk (below_step oB hb))
     go_roundg (l0.length - (kk + 1))
     case measure => omega
     case rel => exact ⟨kk + 1, by omega, by omega, by go_num, HB, H'⟩
    | false =>
     obtain rfl := Option.some.inj H
     go_wp2_with (go_at_call 31; refine (impl_SameInode.calls k _ _ _ _ _ _ _ _ _ _ _ _ _ _ _ _ _ _ _ _ _ _ _ _ false _ (kC I3) l3 (kC I4) l4 (kC I5) l5 (kC J3) m3 (kC J4) m4 (kC J5) m5 A.out).mono ?_; rintro e w' ⟨rfl, hb⟩; replace HB := Aside0.mk (below_step oB hb))
     go_ret
     exact ⟨rfl, oB⟩
   ·have hltz : ¬ (kk : Int) < (l0.length : Int) := by omega
    obtain rfl : kk = l0.length := by omega
    have H := HA.out
    clear HA
    rw [List.drop_length, List.drop_eq_nil_of_le (by rw [E.out]; exact Nat.le_refl _), sameR] at H
    obtain rfl := Option.some.inj H
    go_wp2
    go_ret
    exact ⟨rfl, oB⟩
 ·rw [if_neg c] at h
  obtain rfl := Option.some.inj h
  have c0_ : ((l0.length : Int) != (l1.length : Int)) = true := bne_iff_ne.mpr c
  have c2_ : (l0.length != l1.length) = true := by simp; omega
  clear c
  go_enter Try.func93, Try.ntmps93
  go_wp2
  go_ret
  exact ⟨rfl, oB⟩
def impl_SameTab.f (k : Nat) (l0_0 : List S45) (a0_1 : Int) (l1_0 : List S45) (a1_1 : Int) : Option Bool := if (l0_0.length : Int) ≤ 9223372036854775807 then (if a0_1 = a1_1 then (if (l0_0.length : Int) = (l1_0.length : Int) then sameR k l0_0 l1_0 else some false) else some false) else none
set_option maxHeartbeats 1000000 in
theorem impl_SameTab.calls (k : Nat) (A0_0 : Option Addr) (c0_0 : Nat) (l0_0 : List S45) (a0_1 : Int) (A1_0 : Option Addr) (c1_0 : Nat) (l1_0 : List S45) (a1_1 : Int) (r : Bool) (w : World) (hr0_0 : Kd.C k45 w A0_0 l0_0.length l0_0) (hc0_0 : l0_0.length ≤ c0_0) (hr1_0 : Kd.C k45 w A1_0 l1_0.length l1_0) (hc1_0 : l1_0.length ≤ c1_0) (h : impl_SameTab.f k l0_0 a0_1 l1_0 a1_1 = some r) :
  Calls Try.prog 42 #[.agg #[.slice A0_0 l0_0.length c0_0, .int .i64 a0_1], .agg #[.slice A1_0 l1_0.length c1_0, .int .i64 a1_1]] w fun e w' => e = .returned (.bool r) ∧ Below w.heap.size w w' := by
 unfold impl_SameTab.f at h
 split at h
 case isFalse => cases h
 case isTrue hl =>
 have HB := Aside0.mk (Below.refl w.heap.size w)
 by_cases c : a0_1 = a1_1
 ·rw [if_pos c] at h
  have c0_ : (a0_1 == a1_1) = true := beq_iff_eq.mpr c
  clear c
  have HR0 := Aside0.mk hr0_0
  have HR1 := Aside0.mk hr1_0
  clear hr0_0 hr1_0 hc0_0 hc1_0
  have H' := Aside0.mk h
  clear h
  have hl' : l0_0.length ≤ 9223372036854775807 := by omega
  have HL := Aside0.mk hl'
  clear hl hl'
  go_enter Try.func42, Try.ntmps42
  go_wp2_with (go_at_call 93; refine (equalFunc_SameInode.calls k _ _ l0_0 _ _ l1_0 r _ (kC HR0) (kC HR1) HL.out H'.out).mono ?_; rintro e w' ⟨rfl, hb⟩; replace HB := Aside0.mk (below_step oB hb))
  go_ret
  exact ⟨rfl, oB⟩
 ·rw [if_neg c] at h
  obtain rfl := Option.some.inj h
  have c0_ : (a0_1 == a1_1) = false := beq_eq_false_iff_ne.mpr c
  clear c hr0_0 hr1_0 hc0_0 hc1_0 h hl
  go_enter Try.func42, Try.ntmps42
  go_wp2
  go_ret
  exact ⟨rfl, oB⟩
end Go.Proofs.Ytkknehgaebhbeaa.P
