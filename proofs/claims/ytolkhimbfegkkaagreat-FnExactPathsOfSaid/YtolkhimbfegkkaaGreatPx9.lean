-- By this session's own program (wip/myprint.py) out of the translation; Lean checks it.
import Derived.Test.YtolkhimbfegkkaaGreatPx0
import Derived.Test.YtolkhimbfegkkaaGreatPx3
import Derived.Test.YtolkhimbfegkkaaGreatPx6
import Derived.Test.YtolkhimbfegkkaaGreatPx8
namespace Go.Proofs.YtolkhimbfegkkaaGreat.P
open Go.RowKit Go.Proofs.YtolkhimbfegkkaaGreatW.PrintWords Go.Proofs.YtolkhimbfegkkaaGreatW.PrintLast Go.Proofs.YtolkhimbfegkkaaGreatW.PrintMore
attribute [local go_sem] max2_int min2_int max_two min_two max_three min_three max_four min_four   -- for this text's walks alone
set_option linter.unusedVariables false
set_option linter.unusedSimpArgs false

/-! ### spec_l7Next: function 48 -/
mutual
def spec_l7Next.l0 : Nat → List Int → List Int → Int → List (S47) → Int → Option (List Int)
 | 0, _, _, _, _, _ => none
 | k + 1, x1, x5, x6, x203000, x203001 => if x6 < (x1.length : Int) then (if 0 ≤ x6 then ((spec_InodeAt.f k x203000 x203001 (rd x1 x6)).bind fun bt207 => (spec_l7Next.l1 k x1 x5 x6 bt207.2.2.2.2.2.2 0 x203000 x203001 bt207.1 bt207.2.1 bt207.2.2.1 bt207.2.2.2.1 bt207.2.2.2.2.1 bt207.2.2.2.2.2.1)) else (none)) else (some x5)
def spec_l7Next.l1 : Nat → List Int → List Int → Int → Bool → Int → List (S47) → Int → Int → Int → Int → List Int → List (S63) → List (S87) → Option (List Int)
 | 0, _, _, _, _, _, _, _, _, _, _, _, _, _ => none
 | k + 1, x1, x5, x6, x8, x9, x203000, x203001, x221000, x221001, x221002, x221003, x221004, x221005 => if x9 < (x221004.length : Int) then (if x8 = true then (spec_l7Next.j2 k x1 x5 x6 x8 x9 (x221001 == 2) x203000 x203001 x221000 x221001 x221002 x221003 x221004 x221005) else (spec_l7Next.j2 k x1 x5 x6 x8 x9 false x203000 x203001 x221000 x221001 x221002 x221003 x221004 x221005)) else (spec_l7Next.j2 k x1 x5 x6 x8 x9 false x203000 x203001 x221000 x221001 x221002 x221003 x221004 x221005)
def spec_l7Next.j2 : Nat → List Int → List Int → Int → Bool → Int → Bool → List (S47) → Int → Int → Int → Int → List Int → List (S63) → List (S87) → Option (List Int)
 | 0, _, _, _, _, _, _, _, _, _, _, _, _, _, _ => none
 | k + 1, x1, x5, x6, x8, x9, x38, x203000, x203001, x221000, x221001, x221002, x221003, x221004, x221005 => if x38 = true then (if 0 ≤ x9 then (if x9 < (x221004.length : Int) then ((spec_l4At.f k x203000 x203001 ((rd_T63 x221004 x9).f1)).bind fun t222 => (if t222 ≥ 0 then ((spec_l7Put.f k x5 ((rd_T63 x221004 x9).f1)).bind fun t224 => (spec_l7Next.l1 k x1 t224 x6 x8 (wrap64 (x9 + 1)) x203000 x203001 x221000 x221001 x221002 x221003 x221004 x221005)) else (spec_l7Next.l1 k x1 x5 x6 x8 (wrap64 (x9 + 1)) x203000 x203001 x221000 x221001 x221002 x221003 x221004 x221005))) else (none)) else (none)) else (spec_l7Next.l0 k x1 x5 (wrap64 (x6 + 1)) x203000 x203001)
end
def spec_l7Next.f (k : Nat) (l0_0 : List (S47)) (a0_1 : Int) (l1 : List Int) : Option (List Int) := spec_l7Next.l0 k l1 l1 0 l0_0 a0_1
def spec_l7Next.T5 : Bool × List (List Nat × List Nat) := (true, [([], []), ([], []), ([], []), ([1, 2], [1, 2]), ([3], [3]), ([0, 4], [0, 4]), ([5], [5]), ([6], [6]), ([6], [6]), ([], []), ([9, 7, 5, 0, 1, 2, 3, 4, 5, 6, 7, 9], [7, 9]), ([8, 10, 0, 1, 2, 3, 4, 5, 6, 7, 8, 9, 10], [8])])
def spec_l7Next.B5 : List Nat := [0, 0, 0, 6, 14, 31, 63, 127, 127, 0, 767, 2047]
theorem spec_l7Next.tab5 : rtab .any (opsOf Tryz.f48 5) = spec_l7Next.T5 := by kernel_rfl
theorem spec_l7Next.bits5 : waitsOk spec_l7Next.T5.2 spec_l7Next.B5 = true := by kernel_rfl
def spec_l7Next.T9 : Bool × List (List Nat × List Nat) := (true, [([], []), ([], []), ([1], [1]), ([], []), ([2, 3], [2, 3]), ([4], [4]), ([5], [5]), ([0, 6], [0, 6]), ([7], [7])])
def spec_l7Next.B9 : List Nat := [0, 0, 2, 0, 14, 30, 62, 127, 255]
theorem spec_l7Next.tab9 : rtab .any (opsOf Tryz.f48 9) = spec_l7Next.T9 := by kernel_rfl
theorem spec_l7Next.bits9 : waitsOk spec_l7Next.T9.2 spec_l7Next.B9 = true := by kernel_rfl
set_option maxHeartbeats 8000000 in
set_option maxRecDepth 100000 in
theorem spec_l7Next.calls (k : Nat) (A0_0 : Option Addr) (c0_0 : Nat) (l0_0 : List (S47)) (a0_1 : Int) (A1 : Option Addr) (c1 : Nat) (l1 : List Int) (r : List Int) (b0 : Nat) (w : World) (hb0 : b0 ≤ w.heap.size) (hr0_0 : Kd.C k47 w A0_0 l0_0.length l0_0) (hc0_0 : l0_0.length ≤ c0_0) (ho1 : Kd.R (Kd.int .i64) 3 w b0 (fun _ => True) (.slice A1 l1.length c1) l1) (h : spec_l7Next.f k l0_0 a0_1 l1 = some r) :
  Calls Tryz.prog 48 #[.agg #[.slice A0_0 l0_0.length c0_0, .int .i64 a0_1], .slice A1 l1.length c1] w fun e w' => ∃ v0_ : Value, e = .returned (v0_) ∧ Kd.R (Kd.int .i64) 3 w' b0 (fun _ => True) v0_ r ∧ Below w.heap.size w w' := by
 have hu30 := Tryz.underlying30
 have hu47 := Tryz.underlying47
 have HR0_0 := Aside0.mk hr0_0
 have HC0_0 := Aside0.mk hc0_0
 clear hr0_0 hc0_0
 have HR1 := Aside0.mk (Kd.R_reads' ho1).2.2
 have HC1 := Aside0.mk (Kd.R_reads' ho1).2.1
 have HO00 := Aside0.mk ho1
 have HB0 := Aside0.mk hb0
 clear ho1 hb0
 have HB := Aside0.mk (Below.refl w.heap.size w)
 have H : (spec_l7Next.l0 k l1 l1 0 l0_0 a0_1) = some r := h
 clear h
 have H' := Aside0.mk H
 clear H
 go_enter Tryz.func48, Tryz.ntmps48
 go_wp2_with (first | ((with_reducible refine gate_dst (N := 2) rfl ?_); refine box_event ?hg (N := 2) ?hd (cs := #[.slice A0_0 l0_0.length c0_0, .int .i64 a0_1]) (t := 30) ?hr ?_; (case hd => rfl); (case hg => rfl); (case hr => first | (go_simp; done) | (go_simp; rfl)); intro gb202 hg w3 hbox hb; have n0_ := Aside0.mk (below_step oB hb); have n1_ := Aside0.mk (hbox); have n2_ := Aside0.mk ((by rw [hg]; exact (below_size oB) : w.heap.size ≤ gb202)); have n3_ := Aside0.mk ((by rw [hg]; exact (below_size oB) : w.heap.size ≤ gb202)); clear HB; have HB := n0_; have BK202 := n1_; have GW202 := n2_; have GE202 := n3_; clear n0_ n1_ n2_ n3_; have HO205 := Aside0.mk (Kd.R_below HO00.out hb); clear hb hbox hg))
 go_loopg [5, 6] k (fun kq v5 v6 w' => ∃ (x5_1 : List Int) (x6_1 : Int), v6 = .int .i64 x6_1 ∧ Aside0 (spec_l7Next.l0 kq l1 x5_1 x6_1 l0_0 a0_1 = some r) ∧ Aside0 (kq ≤ k) ∧ Aside0 (Kd.R (Kd.int .i64) 3 w' b0 (fun _ => True) v5 x5_1) ∧ Aside0 (w'.heap[gb202]? = some (.cells #[(.slice A0_0 l0_0.length c0_0), .int .i64 a0_1] 30 (0, 0))) ∧ Aside0 (Below w.heap.size w w'))
 case atStart => exact ⟨(l1), (0), oS, H', ⟨Nat.le_refl _⟩, ⟨by (with_reducible repeat (first | apply Kd.R_alloc | apply Kd.R_drewN | apply Kd.R_drew)); exact HO205.out⟩, ⟨oF BK202⟩, ⟨by repeat (first | (with_reducible first | exact HB.out | apply below_alloc | apply pw_below_drewN | apply below_drew1 | refine below_set ?_ GE202.out) | exact HB.out)⟩⟩
 case round =>
  clear H'
  try clear c1
  try clear p2
  try clear c4
  obtain ⟨x5_1, x6_1, rfl, HA, HK1, HO_5, BK202, HB⟩ := hrel
  cases gk with
  | zero => exact absurd HA.out (by simp [spec_l7Next.l0])
  | succ k1 =>
   have H := HA.out
   clear HA
   simp only [spec_l7Next.l0] at H
   by_cases c6 : x6_1 < (l1.length : Int)
   ·rw [if_pos c6] at H
    have c6b0 : decide (x6_1 < (l1.length : Int)) = true := decide_eq_true c6
    clear c6
    by_cases c7 : 0 ≤ x6_1
    ·rw [if_pos c7] at H
     have c7b0 : decide (0 ≤ x6_1) = true := decide_eq_true c7
     clear c7
     replace H := Option.bind_eq_some_iff.mp H
     obtain ⟨⟨t207, t208, t209, t210, t213, t216, t219⟩, A80, H⟩ := H
     replace H : (spec_l7Next.l1 k1 l1 x5_1 x6_1 t219 0 l0_0 a0_1 t207 t208 t209 t210 t213 t216) = some r := H
     have A8 := Aside0.mk A80
     clear A80
     have H' := Aside0.mk H
     clear H
     try go_wp2
     have n0_ := Aside0.mk (Kd.R_drew HO_5.out)
     have n1_ := Aside0.mk (blk_drew BK202.out)
     have n2_ := Aside0.mk (below_drew1 HB.out)
     clear HO_5
     clear BK202
     clear HB
     have HO_5 := n0_
     have BK202 := n1_
     have HB := n2_
     clear n0_ n1_ n2_
     have p206 : 0 ≤ (x6_1 : Int) := oa
     have q206 : x6_1 < (l1.length : Int) := oa
     obtain ⟨ad206, e206, hx206_0⟩ := Kd.at_int HR1.out x6_1 p206 q206
     have hw206_0 := hx206_0
     cases e206
     replace hx206_0 := (HB.out.cell (World.block_lt_of_cell? w _ hx206_0)).trans hx206_0
     replace p206 := eq_true p206
     replace q206 := eq_true q206
     refine st_ 12 (fun w' => w'.cell? ⟨gb202, 0, none⟩ = some (.slice A0_0 l0_0.length c0_0) ∧ w'.cell? ⟨gb202, 1, none⟩ = some (.int .i64 a0_1) ∧ w'.cell? (ad206.add (x6_1).toNat) = some (.int .i64 (rd l1 x6_1))) spec_l7Next.tab5 spec_l7Next.bits5 oH (fun hHeld HT_ HW_ => ?_)
     generalize wr.drew = w9 at HO_5 BK202 HB hx206_0 hHeld ⊢
     refine pu_ 1 19 HT_ ?_
     refine pu_ 2 20 HT_ ?_
     refine pu_ 3 21 HT_ ?_
     refine ta_ 0 18 HT_ HW_ hHeld ?_
     refine ta_ 4 22 HT_ HW_ hHeld ?_
     refine join_ (σ := Value × Value × Value × Nat) 2 (lb 12 1023) (fun s_ => [(23, .tuple #[.agg #[.int .i64 t207, .int .i64 t208, .int .i64 t209, s_.1, s_.2.1, s_.2.2.1], .bool t219]), (7, .pointer (some ⟨s_.2.2.2, 0, none⟩)), (17, .tuple #[.agg #[.int .i64 t207, .int .i64 t208, .int .i64 t209, s_.1, s_.2.1, s_.2.2.1], .bool t219]), (24, .agg #[.int .i64 t207, .int .i64 t208, .int .i64 t209, s_.1, s_.2.1, s_.2.2.1]), (25, .bool t219)]) (fun s_ w' => (w'.cell? ⟨gb202, 0, none⟩ = some (.slice A0_0 l0_0.length c0_0) ∧ w'.cell? ⟨gb202, 1, none⟩ = some (.int .i64 a0_1) ∧ w'.cell? (ad206.add (x6_1).toNat) = some (.int .i64 (rd l1 x6_1))) ∧ (Kd.R (Kd.int .u8) 5 w' w.heap.size (fun _ => True) s_.1 t210) ∧ (Kd.R k63 63 w' w.heap.size (fun _ => True) s_.2.1 t213) ∧ (Kd.R k87 87 w' w.heap.size (fun _ => True) s_.2.2.1 t216) ∧ (Kd.R (Kd.int .i64) 3 w' b0 (fun _ => True) u5 x5_1) ∧ (w'.heap[gb202]? = some (.cells #[.slice A0_0 l0_0.length c0_0, .int .i64 a0_1] 30 (0, 0))) ∧ (w'.heap[s_.2.2.2]? = some (.cells #[.int .i64 0, .int .i64 0, .int .i64 0, .slice none 0 0, .slice none 0 0, .slice none 0 0] 47 (0, 0))) ∧ (w.heap.size ≤ s_.2.2.2) ∧ (w.heap.size ≤ s_.2.2.2) ∧ (gb202 ≠ s_.2.2.2) ∧ (s_.2.2.2 ≠ gb202) ∧ (Below w.heap.size w w')) ?_ ?_
     rotate_left
     ·intro hCont
      refine two_ (i := 5) (j := 9) (Ni := some 23) (Nj := some 7) (lb 12 63) (lb 12 543) rfl rfl rfl rfl (two_of HT_.out (by kernel_rfl)) (by decide) (by decide) (fun K hK => ?_) (fun K hK => ?_)
      ·skip
       refine goes_ Tryz.func30 (by kernel_rfl) rfl #[.agg #[.slice A0_0 l0_0.length c0_0, .int .i64 a0_1], .int .i64 (rd l1 x6_1)] (by rfl) rfl rfl oL ?_
       with_reducible refine (spec_InodeAt.calls k1 _ _ l0_0 a0_1 (rd l1 x6_1) t207 t208 t209 t210 t213 t216 t219 _ ?side1 ?side2 A8.out).mono ?_
       (case side1 => repeat (first | exact (Kd.C_below HR0_0.out HB.out) | (with_reducible refine Kd.C_alloc ?_ _) | (with_reducible refine Kd.C_drewN ?_ _) | (with_reducible refine Kd.C_drew ?_)))
       (case side2 => exact HC0_0.out)
       rintro e w10 ⟨v211, v214, v217, rfl, ho0, ho1, ho2, hb⟩
       refine ⟨_, rfl, ?_⟩
       have n0_ := beR0 HO_5 hb
       have n1_ := Aside0.mk (Kd.R_lower ho0 (below_size (by repeat (first | (with_reducible first | exact HB.out | apply below_alloc | apply pw_below_drewN | apply below_drew1 | refine below_set ?_ GE202.out) | exact HB.out))))
       have n2_ := Aside0.mk (Kd.R_lower ho1 (below_size (by repeat (first | (with_reducible first | exact HB.out | apply below_alloc | apply pw_below_drewN | apply below_drew1 | refine below_set ?_ GE202.out) | exact HB.out))))
       have n3_ := Aside0.mk (Kd.R_lower ho2 (below_size (by repeat (first | (with_reducible first | exact HB.out | apply below_alloc | apply pw_below_drewN | apply below_drew1 | refine below_set ?_ GE202.out) | exact HB.out))))
       have n4_ := kb_ BK202 hb
       have n5_ := Aside0.mk (below_step (by repeat (first | (with_reducible first | exact HB.out | apply below_alloc | apply pw_below_drewN | apply below_drew1 | refine below_set ?_ GE202.out) | exact HB.out)) hb)
       clear HO_5
       clear BK202
       clear HB
       have HO_5 := n0_
       have HO212 := n1_
       have HO215 := n2_
       have HO218 := n3_
       have BK202 := n4_
       have HB := n5_
       clear n0_ n1_ n2_ n3_ n4_ n5_
       (try clear hb)
       (try clear hb2)
       (try clear hk)
       (try clear hi)
       (try clear ho0)
       (try clear ho1)
       (try clear ho2)
       refine hk_ hK 23 oH (fun hHeld => ?_)
       clear hK K
       refine pu_ 6 17 HT_ ?_
       refine pu_ 7 24 HT_ ?_
       refine pu_ 8 25 HT_ ?_
       refine on_ 9 7 HT_ (fun K hK => ?_)
       refine box_step ?hg (N := 7) ?hd (cs := #[.int .i64 0, .int .i64 0, .int .i64 0, .slice none 0 0, .slice none 0 0, .slice none 0 0]) (t := 47) ?hr ?_; (case hd => rfl); (case hg => rfl); (case hr => first | (go_simp; done) | (go_simp; rfl))
       intro gb220 hg w11 hbox hb
       have n0_ := beR0 HO_5 hb
       have n1_ := beR0 HO212 hb
       have n2_ := beR0 HO215 hb
       have n3_ := beR0 HO218 hb
       have n4_ := kb_ BK202 hb
       have n5_ := Aside0.mk (below_step (by repeat (first | (with_reducible first | exact HB.out | apply below_alloc | apply pw_below_drewN | apply below_drew1 | refine below_set ?_ GE202.out) | exact HB.out)) hb)
       have n6_ := Aside0.mk (hbox)
       have n7_ := Aside0.mk ((by rw [hg]; exact (below_size (by repeat (first | (with_reducible first | exact HB.out | apply below_alloc | apply pw_below_drewN | apply below_drew1 | refine below_set ?_ GE202.out) | exact HB.out))) : w.heap.size ≤ gb220))
       have n8_ := Aside0.mk ((by rw [hg]; exact (below_size (by repeat (first | (with_reducible first | exact HB.out | apply below_alloc | apply pw_below_drewN | apply below_drew1 | refine below_set ?_ GE202.out) | exact HB.out))) : w.heap.size ≤ gb220))
       have n9_ := Aside0.mk ((by rw [hg]; exact Nat.ne_of_lt (blk_lt (g := gb202) (o := .cells #[.slice A0_0 l0_0.length c0_0, .int .i64 a0_1] 30 (0, 0)) (oF BK202)) : gb202 ≠ gb220))
       have n10_ := Aside0.mk ((by rw [hg]; exact Nat.ne_of_gt (blk_lt (g := gb202) (o := .cells #[.slice A0_0 l0_0.length c0_0, .int .i64 a0_1] 30 (0, 0)) (oF BK202)) : gb220 ≠ gb202))
       clear HO_5
       clear HO212
       clear HO215
       clear HO218
       clear BK202
       clear HB
       have HO_5 := n0_
       have HO212 := n1_
       have HO215 := n2_
       have HO218 := n3_
       have BK202 := n4_
       have HB := n5_
       have BK220 := n6_
       have GW220 := n7_
       have GE220 := n8_
       have NB202_220 := n9_
       have NB220_202 := n10_
       clear n0_ n1_ n2_ n3_ n4_ n5_ n6_ n7_ n8_ n9_ n10_
       clear hb hbox hg
       refine hk_ hK 7 oH (fun hHeld => ?_)
       clear hK K
       exact norm_ (by simp only [putAll, Act.put, List.setIfInBounds_toArray, List.set_cons_zero, List.set_cons_succ]) (hCont (v211, v214, v217, gb220) _ ⟨hHeld, (nR0 HO212), (nR0 HO215), (nR0 HO218), (nR0 HO_5), (oF BK202), (oF BK220), GW220.out, GE220.out, NB202_220.out, NB220_202.out, (by repeat (first | (with_reducible first | exact HB.out | apply below_alloc | apply pw_below_drewN | apply below_drew1 | refine below_set ?_ GE202.out | refine below_set ?_ GE220.out) | exact HB.out))⟩)
      ·skip
       refine box_step ?hg (N := 7) ?hd (cs := #[.int .i64 0, .int .i64 0, .int .i64 0, .slice none 0 0, .slice none 0 0, .slice none 0 0]) (t := 47) ?hr ?_; (case hd => rfl); (case hg => rfl); (case hr => first | (go_simp; done) | (go_simp; rfl))
       intro gb220 hg w10 hbox hb
       have n0_ := beR0 HO_5 hb
       have n1_ := kb_ BK202 hb
       have n2_ := Aside0.mk (below_step (by repeat (first | (with_reducible first | exact HB.out | apply below_alloc | apply pw_below_drewN | apply below_drew1 | refine below_set ?_ GE202.out) | exact HB.out)) hb)
       have n3_ := Aside0.mk (hbox)
       have n4_ := Aside0.mk ((by rw [hg]; exact (below_size (by repeat (first | (with_reducible first | exact HB.out | apply below_alloc | apply pw_below_drewN | apply below_drew1 | refine below_set ?_ GE202.out) | exact HB.out))) : w.heap.size ≤ gb220))
       have n5_ := Aside0.mk ((by rw [hg]; exact (below_size (by repeat (first | (with_reducible first | exact HB.out | apply below_alloc | apply pw_below_drewN | apply below_drew1 | refine below_set ?_ GE202.out) | exact HB.out))) : w.heap.size ≤ gb220))
       have n6_ := Aside0.mk ((by rw [hg]; exact Nat.ne_of_lt (blk_lt (g := gb202) (o := .cells #[.slice A0_0 l0_0.length c0_0, .int .i64 a0_1] 30 (0, 0)) (oF BK202)) : gb202 ≠ gb220))
       have n7_ := Aside0.mk ((by rw [hg]; exact Nat.ne_of_gt (blk_lt (g := gb202) (o := .cells #[.slice A0_0 l0_0.length c0_0, .int .i64 a0_1] 30 (0, 0)) (oF BK202)) : gb220 ≠ gb202))
       clear HO_5
       clear BK202
       clear HB
       have HO_5 := n0_
       have BK202 := n1_
       have HB := n2_
       have BK220 := n3_
       have GW220 := n4_
       have GE220 := n5_
       have NB202_220 := n6_
       have NB220_202 := n7_
       clear n0_ n1_ n2_ n3_ n4_ n5_ n6_ n7_
       clear hb hbox hg
       refine hk_ hK 7 oH (fun hHeld => ?_)
       clear hK K
       refine on_ 5 23 HT_ (fun K hK => ?_)
       refine goes_ Tryz.func30 (by kernel_rfl) rfl #[.agg #[.slice A0_0 l0_0.length c0_0, .int .i64 a0_1], .int .i64 (rd l1 x6_1)] (by rfl) rfl rfl oL ?_
       with_reducible refine (spec_InodeAt.calls k1 _ _ l0_0 a0_1 (rd l1 x6_1) t207 t208 t209 t210 t213 t216 t219 _ ?side1 ?side2 A8.out).mono ?_
       (case side1 => repeat (first | exact (Kd.C_below HR0_0.out HB.out) | (with_reducible refine Kd.C_alloc ?_ _) | (with_reducible refine Kd.C_drewN ?_ _) | (with_reducible refine Kd.C_drew ?_)))
       (case side2 => exact HC0_0.out)
       rintro e w11 ⟨v211, v214, v217, rfl, ho0, ho1, ho2, hb⟩
       refine ⟨_, rfl, ?_⟩
       have n0_ := beR0 HO_5 hb
       have n1_ := Aside0.mk (Kd.R_lower ho0 (below_size (by repeat (first | (with_reducible first | exact HB.out | apply below_alloc | apply pw_below_drewN | apply below_drew1 | refine below_set ?_ GE202.out | refine below_set ?_ GE220.out) | exact HB.out))))
       have n2_ := Aside0.mk (Kd.R_lower ho1 (below_size (by repeat (first | (with_reducible first | exact HB.out | apply below_alloc | apply pw_below_drewN | apply below_drew1 | refine below_set ?_ GE202.out | refine below_set ?_ GE220.out) | exact HB.out))))
       have n3_ := Aside0.mk (Kd.R_lower ho2 (below_size (by repeat (first | (with_reducible first | exact HB.out | apply below_alloc | apply pw_below_drewN | apply below_drew1 | refine below_set ?_ GE202.out | refine below_set ?_ GE220.out) | exact HB.out))))
       have n4_ := kb_ BK202 hb
       have n5_ := kb_ BK220 hb
       have n6_ := Aside0.mk (below_step (by repeat (first | (with_reducible first | exact HB.out | apply below_alloc | apply pw_below_drewN | apply below_drew1 | refine below_set ?_ GE202.out | refine below_set ?_ GE220.out) | exact HB.out)) hb)
       clear HO_5
       clear BK202
       clear BK220
       clear HB
       have HO_5 := n0_
       have HO212 := n1_
       have HO215 := n2_
       have HO218 := n3_
       have BK202 := n4_
       have BK220 := n5_
       have HB := n6_
       clear n0_ n1_ n2_ n3_ n4_ n5_ n6_
       (try clear hb)
       (try clear hb2)
       (try clear hk)
       (try clear hi)
       (try clear ho0)
       (try clear ho1)
       (try clear ho2)
       refine hk_ hK 23 oH (fun hHeld => ?_)
       clear hK K
       refine pu_ 6 17 HT_ ?_
       refine pu_ 7 24 HT_ ?_
       refine pu_ 8 25 HT_ ?_
       exact norm_ (by simp only [putAll, Act.put, List.setIfInBounds_toArray, List.set_cons_zero, List.set_cons_succ]) (hCont (v211, v214, v217, gb220) _ ⟨hHeld, (nR0 HO212), (nR0 HO215), (nR0 HO218), (nR0 HO_5), (oF BK202), (oF BK220), GW220.out, GE220.out, NB202_220.out, NB220_202.out, (by repeat (first | (with_reducible first | exact HB.out | apply below_alloc | apply pw_below_drewN | apply below_drew1 | refine below_set ?_ GE202.out | refine below_set ?_ GE220.out) | exact HB.out))⟩)
     rintro ⟨v211, v214, v217, gb220⟩ w12 ⟨hS_, h0_, h1_, h2_, h3_, h4_, h5_, h6_, h7_, h8_, h9_, h10_⟩
     have n0_ : Aside0 (Kd.R (Kd.int .u8) 5 w12 w.heap.size (fun _ => True) v211 t210) := ⟨h0_⟩
     have n1_ : Aside0 (Kd.R k63 63 w12 w.heap.size (fun _ => True) v214 t213) := ⟨h1_⟩
     have n2_ : Aside0 (Kd.R k87 87 w12 w.heap.size (fun _ => True) v217 t216) := ⟨h2_⟩
     have n3_ : Aside0 (Kd.R (Kd.int .i64) 3 w12 b0 (fun _ => True) u5 x5_1) := ⟨h3_⟩
     have n4_ : Aside0 (w12.heap[gb202]? = some (.cells #[.slice A0_0 l0_0.length c0_0, .int .i64 a0_1] 30 (0, 0))) := ⟨h4_⟩
     have n5_ : Aside0 (w12.heap[gb220]? = some (.cells #[.int .i64 0, .int .i64 0, .int .i64 0, .slice none 0 0, .slice none 0 0, .slice none 0 0] 47 (0, 0))) := ⟨h5_⟩
     have n6_ : Aside0 (w.heap.size ≤ gb220) := ⟨h6_⟩
     have n7_ : Aside0 (w.heap.size ≤ gb220) := ⟨h7_⟩
     have n8_ : Aside0 (gb202 ≠ gb220) := ⟨h8_⟩
     have n9_ : Aside0 (gb220 ≠ gb202) := ⟨h9_⟩
     have n10_ : Aside0 (Below w.heap.size w w12) := ⟨h10_⟩
     clear HO_5
     clear BK202
     clear HB
     clear h0_ h1_ h2_ h3_ h4_ h5_ h6_ h7_ h8_ h9_ h10_
     have HO212 := n0_
     have HO215 := n1_
     have HO218 := n2_
     have HO_5 := n3_
     have BK202 := n4_
     have BK220 := n5_
     have GW220 := n6_
     have GE220 := n7_
     have NB202_220 := n8_
     have NB220_202 := n9_
     have HB := n10_
     clear n0_ n1_ n2_ n3_ n4_ n5_ n6_ n7_ n8_ n9_ n10_
     have hHeld : w12.cell? ⟨gb202, 0, none⟩ = some (.slice A0_0 l0_0.length c0_0) ∧ w12.cell? ⟨gb202, 1, none⟩ = some (.int .i64 a0_1) ∧ w12.cell? (ad206.add (x6_1).toNat) = some (.int .i64 (rd l1 x6_1)) := hS_
     obtain ⟨Ao16, co16, eo16⟩ := Kd.R_slice HO212.out
     (first | subst eo16 | (injection eo16 with f1_ f2_ f3_; have f4_ := f1_.symm; have f5_ := f3_.symm; clear f1_ f2_ f3_; subst f4_; subst f5_))
     obtain ⟨Ao18, co18, eo18⟩ := Kd.R_slice HO215.out
     (first | subst eo18 | (injection eo18 with f1_ f2_ f3_; have f4_ := f1_.symm; have f5_ := f3_.symm; clear f1_ f2_ f3_; subst f4_; subst f5_))
     obtain ⟨Ao20, co20, eo20⟩ := Kd.R_slice HO218.out
     (first | subst eo20 | (injection eo20 with f1_ f2_ f3_; have f4_ := f1_.symm; have f5_ := f3_.symm; clear f1_ f2_ f3_; subst f4_; subst f5_))
     refine norm_ (a' := ?_) ?_ ?_
     rotate_left
     ·simp only [putAll, Act.put, List.setIfInBounds_toArray, List.set_cons_zero, List.set_cons_succ]
      rfl
     refine one_ (i := 10) (N := none) (lb 12 2047) rfl rfl (one_of HT_.out (by kernel_rfl)) (by decide) (fun K hK => ?_)
     have hs13 : w12.cell? ⟨gb220, 0, none⟩ = some (.int .i64 0) := (blk_cell BK220.out 0).trans rfl
     have hfs13 := blk_frozen BK220.out 0
     have hns13_0 := NB202_220.out
     have hms13_0 := NB220_202.out
     have hs14 : w12.cell? ⟨gb220, 1, none⟩ = some (.int .i64 0) := (blk_cell BK220.out 1).trans rfl
     have hfs14 := blk_frozen BK220.out 1
     have hns14_0 := NB202_220.out
     have hms14_0 := NB220_202.out
     have hs15 : w12.cell? ⟨gb220, 2, none⟩ = some (.int .i64 0) := (blk_cell BK220.out 2).trans rfl
     have hfs15 := blk_frozen BK220.out 2
     have hns15_0 := NB202_220.out
     have hms15_0 := NB220_202.out
     have hs17 : w12.cell? ⟨gb220, 3, none⟩ = some (.slice none 0 0) := (blk_cell BK220.out 3).trans rfl
     have hfs17 := blk_frozen BK220.out 3
     have hns17_0 := NB202_220.out
     have hms17_0 := NB220_202.out
     have hs19 : w12.cell? ⟨gb220, 4, none⟩ = some (.slice none 0 0) := (blk_cell BK220.out 4).trans rfl
     have hfs19 := blk_frozen BK220.out 4
     have hns19_0 := NB202_220.out
     have hms19_0 := NB220_202.out
     have hs21 : w12.cell? ⟨gb220, 5, none⟩ = some (.slice none 0 0) := (blk_cell BK220.out 5).trans rfl
     have hfs21 := blk_frozen BK220.out 5
     have hns21_0 := NB202_220.out
     have hms21_0 := NB220_202.out
     refine skip_ (w1 := ?_) (by rfl) rfl ?_ ?_
     rotate_left
     ·go_simp
      rfl
     refine hK.out _ _ ⟨((cell_far (p := ⟨gb220, _, none⟩) NB202_220.out _).trans (((cell_far (p := ⟨gb220, _, none⟩) NB202_220.out _).trans (((cell_far (p := ⟨gb220, _, none⟩) NB202_220.out _).trans (((cell_far (p := ⟨gb220, _, none⟩) NB202_220.out _).trans (((cell_far (p := ⟨gb220, _, none⟩) NB202_220.out _).trans (((cell_far (p := ⟨gb220, _, none⟩) NB202_220.out _).trans (hHeld.1)))))))))))), ((cell_far (p := ⟨gb220, _, none⟩) NB202_220.out _).trans (((cell_far (p := ⟨gb220, _, none⟩) NB202_220.out _).trans (((cell_far (p := ⟨gb220, _, none⟩) NB202_220.out _).trans (((cell_far (p := ⟨gb220, _, none⟩) NB202_220.out _).trans (((cell_far (p := ⟨gb220, _, none⟩) NB202_220.out _).trans (((cell_far (p := ⟨gb220, _, none⟩) NB202_220.out _).trans (hHeld.2.1)))))))))))), ((cell_far (p := ⟨gb220, _, none⟩) (by first | exact Nat.ne_of_lt (Nat.lt_of_lt_of_le (by have := World.block_lt_of_cell? _ _ hw206_0; first | rwa [add_block] at this | exact this) GW220.out) | (rw [add_block]; exact Nat.ne_of_lt (Nat.lt_of_lt_of_le (by have := World.block_lt_of_cell? _ _ hw206_0; first | rwa [add_block] at this | exact this) GW220.out)) | (show (Addr.add _ _).block ≠ _; rw [add_block]; exact Nat.ne_of_lt (Nat.lt_of_lt_of_le (by have := World.block_lt_of_cell? _ _ hw206_0; first | rwa [add_block] at this | exact this) GW220.out)) | (dsimp only; exact Nat.ne_of_lt (Nat.lt_of_lt_of_le (by have := World.block_lt_of_cell? _ _ hw206_0; first | rwa [add_block] at this | exact this) GW220.out))) _).trans (((cell_far (p := ⟨gb220, _, none⟩) (by first | exact Nat.ne_of_lt (Nat.lt_of_lt_of_le (by have := World.block_lt_of_cell? _ _ hw206_0; first | rwa [add_block] at this | exact this) GW220.out) | (rw [add_block]; exact Nat.ne_of_lt (Nat.lt_of_lt_of_le (by have := World.block_lt_of_cell? _ _ hw206_0; first | rwa [add_block] at this | exact this) GW220.out)) | (show (Addr.add _ _).block ≠ _; rw [add_block]; exact Nat.ne_of_lt (Nat.lt_of_lt_of_le (by have := World.block_lt_of_cell? _ _ hw206_0; first | rwa [add_block] at this | exact this) GW220.out)) | (dsimp only; exact Nat.ne_of_lt (Nat.lt_of_lt_of_le (by have := World.block_lt_of_cell? _ _ hw206_0; first | rwa [add_block] at this | exact this) GW220.out))) _).trans (((cell_far (p := ⟨gb220, _, none⟩) (by first | exact Nat.ne_of_lt (Nat.lt_of_lt_of_le (by have := World.block_lt_of_cell? _ _ hw206_0; first | rwa [add_block] at this | exact this) GW220.out) | (rw [add_block]; exact Nat.ne_of_lt (Nat.lt_of_lt_of_le (by have := World.block_lt_of_cell? _ _ hw206_0; first | rwa [add_block] at this | exact this) GW220.out)) | (show (Addr.add _ _).block ≠ _; rw [add_block]; exact Nat.ne_of_lt (Nat.lt_of_lt_of_le (by have := World.block_lt_of_cell? _ _ hw206_0; first | rwa [add_block] at this | exact this) GW220.out)) | (dsimp only; exact Nat.ne_of_lt (Nat.lt_of_lt_of_le (by have := World.block_lt_of_cell? _ _ hw206_0; first | rwa [add_block] at this | exact this) GW220.out))) _).trans (((cell_far (p := ⟨gb220, _, none⟩) (by first | exact Nat.ne_of_lt (Nat.lt_of_lt_of_le (by have := World.block_lt_of_cell? _ _ hw206_0; first | rwa [add_block] at this | exact this) GW220.out) | (rw [add_block]; exact Nat.ne_of_lt (Nat.lt_of_lt_of_le (by have := World.block_lt_of_cell? _ _ hw206_0; first | rwa [add_block] at this | exact this) GW220.out)) | (show (Addr.add _ _).block ≠ _; rw [add_block]; exact Nat.ne_of_lt (Nat.lt_of_lt_of_le (by have := World.block_lt_of_cell? _ _ hw206_0; first | rwa [add_block] at this | exact this) GW220.out)) | (dsimp only; exact Nat.ne_of_lt (Nat.lt_of_lt_of_le (by have := World.block_lt_of_cell? _ _ hw206_0; first | rwa [add_block] at this | exact this) GW220.out))) _).trans (((cell_far (p := ⟨gb220, _, none⟩) (by first | exact Nat.ne_of_lt (Nat.lt_of_lt_of_le (by have := World.block_lt_of_cell? _ _ hw206_0; first | rwa [add_block] at this | exact this) GW220.out) | (rw [add_block]; exact Nat.ne_of_lt (Nat.lt_of_lt_of_le (by have := World.block_lt_of_cell? _ _ hw206_0; first | rwa [add_block] at this | exact this) GW220.out)) | (show (Addr.add _ _).block ≠ _; rw [add_block]; exact Nat.ne_of_lt (Nat.lt_of_lt_of_le (by have := World.block_lt_of_cell? _ _ hw206_0; first | rwa [add_block] at this | exact this) GW220.out)) | (dsimp only; exact Nat.ne_of_lt (Nat.lt_of_lt_of_le (by have := World.block_lt_of_cell? _ _ hw206_0; first | rwa [add_block] at this | exact this) GW220.out))) _).trans (((cell_far (p := ⟨gb220, _, none⟩) (by first | exact Nat.ne_of_lt (Nat.lt_of_lt_of_le (by have := World.block_lt_of_cell? _ _ hw206_0; first | rwa [add_block] at this | exact this) GW220.out) | (rw [add_block]; exact Nat.ne_of_lt (Nat.lt_of_lt_of_le (by have := World.block_lt_of_cell? _ _ hw206_0; first | rwa [add_block] at this | exact this) GW220.out)) | (show (Addr.add _ _).block ≠ _; rw [add_block]; exact Nat.ne_of_lt (Nat.lt_of_lt_of_le (by have := World.block_lt_of_cell? _ _ hw206_0; first | rwa [add_block] at this | exact this) GW220.out)) | (dsimp only; exact Nat.ne_of_lt (Nat.lt_of_lt_of_le (by have := World.block_lt_of_cell? _ _ hw206_0; first | rwa [add_block] at this | exact this) GW220.out))) _).trans (hHeld.2.2))))))))))))⟩ (fun hHeld => ?_)
     clear hK K
     refine pu_ 11 8 HT_ ?_
     refine dn_ HT_ ?_
     try go_wp2
     go_loopg [5, 9] k1 (fun kq v5 v9 w' => ∃ (x5_2 : List Int) (x9_2 : Int), v9 = .int .i64 x9_2 ∧ Aside0 (spec_l7Next.l1 kq l1 x5_2 x6_1 t219 x9_2 l0_0 a0_1 t207 t208 t209 t210 t213 t216 = some r) ∧ Aside0 (kq ≤ k1) ∧ Aside0 (Kd.R (Kd.int .i64) 3 w' b0 (fun _ => True) v5 x5_2) ∧ Aside0 (Kd.R (Kd.int .u8) 5 w' w.heap.size (fun _ => True) (.slice Ao16 t210.length co16) t210) ∧ Aside0 (Kd.R k63 63 w' w.heap.size (fun _ => True) (.slice Ao18 t213.length co18) t213) ∧ Aside0 (Kd.R k87 87 w' w.heap.size (fun _ => True) (.slice Ao20 t216.length co20) t216) ∧ Aside0 (w'.heap[gb202]? = some (.cells #[(.slice A0_0 l0_0.length c0_0), .int .i64 a0_1] 30 (0, 0))) ∧ Aside0 (w'.heap[gb220]? = some (.cells #[.int .i64 t207, .int .i64 t208, .int .i64 t209, (.slice Ao16 t210.length co16), (.slice Ao18 t213.length co18), (.slice Ao20 t216.length co20)] 47 (0, 0))) ∧ Aside0 (Below w.heap.size w w'))
     case atStart => exact ⟨(x5_1), (0), oS, H', ⟨Nat.le_refl _⟩, ⟨by (with_reducible repeat (first | apply Kd.R_alloc | apply Kd.R_drewN | apply Kd.R_drew)); exact Kd.R_mono (Kd.R_far (p := ⟨gb220, 5, none⟩) (Kd.R_far (p := ⟨gb220, 4, none⟩) (Kd.R_far (p := ⟨gb220, 3, none⟩) (Kd.R_far (p := ⟨gb220, 2, none⟩) (Kd.R_far (p := ⟨gb220, 1, none⟩) (Kd.R_far (p := ⟨gb220, 0, none⟩) (Kd.R_types HO_5.out BK220.out (by decide)) (fun _ hk => hk.2) (.int .i64 t207)) (fun _ hk => hk.2) (.int .i64 t208)) (fun _ hk => hk.2) (.int .i64 t209)) (fun _ hk => hk.2) (.slice Ao16 t210.length co16)) (fun _ hk => hk.2) (.slice Ao18 t213.length co18)) (fun _ hk => hk.2) (.slice Ao20 t216.length co20)) (fun _ hk => trivial)⟩, ⟨by (with_reducible repeat (first | apply Kd.R_alloc | apply Kd.R_drewN | apply Kd.R_drew)); exact Kd.R_mono (Kd.R_far (p := ⟨gb220, 5, none⟩) (Kd.R_far (p := ⟨gb220, 4, none⟩) (Kd.R_far (p := ⟨gb220, 3, none⟩) (Kd.R_far (p := ⟨gb220, 2, none⟩) (Kd.R_far (p := ⟨gb220, 1, none⟩) (Kd.R_far (p := ⟨gb220, 0, none⟩) (Kd.R_types HO212.out BK220.out (by decide)) (fun _ hk => hk.2) (.int .i64 t207)) (fun _ hk => hk.2) (.int .i64 t208)) (fun _ hk => hk.2) (.int .i64 t209)) (fun _ hk => hk.2) (.slice Ao16 t210.length co16)) (fun _ hk => hk.2) (.slice Ao18 t213.length co18)) (fun _ hk => hk.2) (.slice Ao20 t216.length co20)) (fun _ hk => trivial)⟩, ⟨by (with_reducible repeat (first | apply Kd.R_alloc | apply Kd.R_drewN | apply Kd.R_drew)); exact Kd.R_mono (Kd.R_far (p := ⟨gb220, 5, none⟩) (Kd.R_far (p := ⟨gb220, 4, none⟩) (Kd.R_far (p := ⟨gb220, 3, none⟩) (Kd.R_far (p := ⟨gb220, 2, none⟩) (Kd.R_far (p := ⟨gb220, 1, none⟩) (Kd.R_far (p := ⟨gb220, 0, none⟩) (Kd.R_types HO215.out BK220.out (by decide)) (fun _ hk => hk.2) (.int .i64 t207)) (fun _ hk => hk.2) (.int .i64 t208)) (fun _ hk => hk.2) (.int .i64 t209)) (fun _ hk => hk.2) (.slice Ao16 t210.length co16)) (fun _ hk => hk.2) (.slice Ao18 t213.length co18)) (fun _ hk => hk.2) (.slice Ao20 t216.length co20)) (fun _ hk => trivial)⟩, ⟨by (with_reducible repeat (first | apply Kd.R_alloc | apply Kd.R_drewN | apply Kd.R_drew)); exact Kd.R_mono (Kd.R_far (p := ⟨gb220, 5, none⟩) (Kd.R_far (p := ⟨gb220, 4, none⟩) (Kd.R_far (p := ⟨gb220, 3, none⟩) (Kd.R_far (p := ⟨gb220, 2, none⟩) (Kd.R_far (p := ⟨gb220, 1, none⟩) (Kd.R_far (p := ⟨gb220, 0, none⟩) (Kd.R_types HO218.out BK220.out (by decide)) (fun _ hk => hk.2) (.int .i64 t207)) (fun _ hk => hk.2) (.int .i64 t208)) (fun _ hk => hk.2) (.int .i64 t209)) (fun _ hk => hk.2) (.slice Ao16 t210.length co16)) (fun _ hk => hk.2) (.slice Ao18 t213.length co18)) (fun _ hk => hk.2) (.slice Ao20 t216.length co20)) (fun _ hk => trivial)⟩, ⟨oF BK202⟩, ⟨oP BK220⟩, ⟨by repeat (first | (with_reducible first | exact HB.out | apply below_alloc | apply pw_below_drewN | apply below_drew1 | refine below_set ?_ GE202.out | refine below_set ?_ GE220.out) | exact HB.out)⟩⟩
     case round =>
      clear H'
      try clear c1
      try clear p2
      try clear q2
      try clear hx2
      try clear c3
      try clear c4
      try clear c6
      try clear c6b0
      try clear c7
      try clear c7b0
      try clear p20
      try clear q20
      try clear hx20
      try clear hx206_0
      try clear p2
      try clear p206
      try clear q206
      obtain ⟨x5_2, x9_2, rfl, HA, HK2, HO_5, HO_221003, HO_221004, HO_221005, BK202, BK220, HB⟩ := hrel
      cases gk with
      | zero => exact absurd HA.out (by simp [spec_l7Next.l1])
      | succ k2 =>
       have H := HA.out
       clear HA
       simp only [spec_l7Next.l1] at H
       have HC22 := Aside0.mk H
       clear H
       go_upto_region 7 with (fail)
       go_cut [38] (fun v38 wc => ∃ (kq : Nat) (x38_21 : Bool), v38 = .bool x38_21 ∧ Aside0 (spec_l7Next.j2 kq l1 x5_2 x6_1 t219 x9_2 x38_21 l0_0 a0_1 t207 t208 t209 t210 t213 t216 = some r) ∧ Aside0 (kq ≤ k2) ∧ Aside0 (Kd.R (Kd.int .i64) 3 wc b0 (fun _ => True) u5 x5_2) ∧ Aside0 (Kd.R (Kd.int .u8) 5 wc w.heap.size (fun _ => True) (.slice Ao16 t210.length co16) t210) ∧ Aside0 (Kd.R k63 63 wc w.heap.size (fun _ => True) (.slice Ao18 t213.length co18) t213) ∧ Aside0 (Kd.R k87 87 wc w.heap.size (fun _ => True) (.slice Ao20 t216.length co20) t216) ∧ Aside0 (wc.heap[gb202]? = some (.cells #[(.slice A0_0 l0_0.length c0_0), .int .i64 a0_1] 30 (0, 0))) ∧ Aside0 (wc.heap[gb220]? = some (.cells #[.int .i64 t207, .int .i64 t208, .int .i64 t209, (.slice Ao16 t210.length co16), (.slice Ao18 t213.length co18), (.slice Ao20 t216.length co20)] 47 (0, 0))) ∧ Aside0 (Below w.heap.size w wc))
       case first =>
        have H := HC22.out
        clear HC22
        by_cases c23 : x9_2 < (t213.length : Int)
        ·rw [if_pos c23] at H
         have c23b0 : decide (x9_2 < (t213.length : Int)) = true := decide_eq_true c23
         clear c23
         (first | rw [c23b0] | rw [c23b2] | (simp only [i64_w, i32_w]; rw [c23b0]) | skip)
         by_cases c24 : t219 = true
         ·subst c24
          have H1 : (spec_l7Next.j2 k2 l1 x5_2 x6_1 true x9_2 (t208 == 2) l0_0 a0_1 t207 t208 t209 t210 t213 t216) = some r := by rw [if_pos rfl] at H; exact H
          clear H
          have H := H1
          clear H1
          have H' := Aside0.mk H
          clear H
          have hnb25 := NB220_202.out
          have hnc25 := NB202_220.out
          have hcz26_0 : wr.cell? ⟨gb220, 0, none⟩ = some (.int .i64 t207) := (blk_cell BK220.out 0).trans rfl
          have hcz26_1 : wr.cell? ⟨gb220, 1, none⟩ = some (.int .i64 t208) := (blk_cell BK220.out 1).trans rfl
          have hcz26_2 : wr.cell? ⟨gb220, 2, none⟩ = some (.int .i64 t209) := (blk_cell BK220.out 2).trans rfl
          have hcz26_3 : wr.cell? ⟨gb220, 3, none⟩ = some (.slice Ao16 t210.length co16) := (blk_cell BK220.out 3).trans rfl
          have hcz26_4 : wr.cell? ⟨gb220, 4, none⟩ = some (.slice Ao18 t213.length co18) := (blk_cell BK220.out 4).trans rfl
          have hcz26_5 : wr.cell? ⟨gb220, 5, none⟩ = some (.slice Ao20 t216.length co20) := (blk_cell BK220.out 5).trans rfl
          have hfz26_0 := blk_frozen BK220.out 0
          have hfz26_1 := blk_frozen BK220.out 1
          have hfz26_2 := blk_frozen BK220.out 2
          have hfz26_3 := blk_frozen BK220.out 3
          have hfz26_4 := blk_frozen BK220.out 4
          have hfz26_5 := blk_frozen BK220.out 5
          go_wp2
          go_meet
          case rel => exact ⟨_, ((t208 == 2)), oS, H', ⟨by have := HK1.out; have := HK2.out; first | omega | exact Nat.le_refl _⟩, ⟨by (with_reducible repeat (first | apply Kd.R_alloc | apply Kd.R_drewN | apply Kd.R_drew)); exact HO_5.out⟩, ⟨by (with_reducible repeat (first | apply Kd.R_alloc | apply Kd.R_drewN | apply Kd.R_drew)); exact HO_221003.out⟩, ⟨by (with_reducible repeat (first | apply Kd.R_alloc | apply Kd.R_drewN | apply Kd.R_drew)); exact HO_221004.out⟩, ⟨by (with_reducible repeat (first | apply Kd.R_alloc | apply Kd.R_drewN | apply Kd.R_drew)); exact HO_221005.out⟩, ⟨oF BK202⟩, ⟨oF BK220⟩, ⟨by repeat (first | (with_reducible first | exact HB.out | apply below_alloc | apply pw_below_drewN | apply below_drew1 | refine below_set ?_ GE202.out | refine below_set ?_ GE220.out) | exact HB.out)⟩⟩
         ·replace c24 := Bool.eq_false_iff.mpr c24
          subst c24
          have H1 : (spec_l7Next.j2 k2 l1 x5_2 x6_1 false x9_2 false l0_0 a0_1 t207 t208 t209 t210 t213 t216) = some r := by rw [if_neg (show ¬ (false = true) by decide)] at H; exact H
          clear H
          have H := H1
          clear H1
          have H' := Aside0.mk H
          clear H
          have hnb27 := NB220_202.out
          have hnc27 := NB202_220.out
          have hcz28_0 : wr.cell? ⟨gb220, 0, none⟩ = some (.int .i64 t207) := (blk_cell BK220.out 0).trans rfl
          have hcz28_1 : wr.cell? ⟨gb220, 1, none⟩ = some (.int .i64 t208) := (blk_cell BK220.out 1).trans rfl
          have hcz28_2 : wr.cell? ⟨gb220, 2, none⟩ = some (.int .i64 t209) := (blk_cell BK220.out 2).trans rfl
          have hcz28_3 : wr.cell? ⟨gb220, 3, none⟩ = some (.slice Ao16 t210.length co16) := (blk_cell BK220.out 3).trans rfl
          have hcz28_4 : wr.cell? ⟨gb220, 4, none⟩ = some (.slice Ao18 t213.length co18) := (blk_cell BK220.out 4).trans rfl
          have hcz28_5 : wr.cell? ⟨gb220, 5, none⟩ = some (.slice Ao20 t216.length co20) := (blk_cell BK220.out 5).trans rfl
          have hfz28_0 := blk_frozen BK220.out 0
          have hfz28_1 := blk_frozen BK220.out 1
          have hfz28_2 := blk_frozen BK220.out 2
          have hfz28_3 := blk_frozen BK220.out 3
          have hfz28_4 := blk_frozen BK220.out 4
          have hfz28_5 := blk_frozen BK220.out 5
          go_wp2
          go_meet
          case rel => exact ⟨_, (false), oS, H', ⟨by have := HK1.out; have := HK2.out; first | omega | exact Nat.le_refl _⟩, ⟨by (with_reducible repeat (first | apply Kd.R_alloc | apply Kd.R_drewN | apply Kd.R_drew)); exact HO_5.out⟩, ⟨by (with_reducible repeat (first | apply Kd.R_alloc | apply Kd.R_drewN | apply Kd.R_drew)); exact HO_221003.out⟩, ⟨by (with_reducible repeat (first | apply Kd.R_alloc | apply Kd.R_drewN | apply Kd.R_drew)); exact HO_221004.out⟩, ⟨by (with_reducible repeat (first | apply Kd.R_alloc | apply Kd.R_drewN | apply Kd.R_drew)); exact HO_221005.out⟩, ⟨oF BK202⟩, ⟨oF BK220⟩, ⟨by repeat (first | (with_reducible first | exact HB.out | apply below_alloc | apply pw_below_drewN | apply below_drew1 | refine below_set ?_ GE202.out | refine below_set ?_ GE220.out) | exact HB.out)⟩⟩
        ·rw [if_neg c23] at H
         have c23b0 : decide (x9_2 < (t213.length : Int)) = false := decide_eq_false c23
         clear c23
         (first | rw [c23b0] | rw [c23b2] | (simp only [i64_w, i32_w]; rw [c23b0]) | skip)
         have H' := Aside0.mk H
         clear H
         have hnb29 := NB220_202.out
         have hnc29 := NB202_220.out
         have hcz30_0 : wr.cell? ⟨gb220, 0, none⟩ = some (.int .i64 t207) := (blk_cell BK220.out 0).trans rfl
         have hcz30_1 : wr.cell? ⟨gb220, 1, none⟩ = some (.int .i64 t208) := (blk_cell BK220.out 1).trans rfl
         have hcz30_2 : wr.cell? ⟨gb220, 2, none⟩ = some (.int .i64 t209) := (blk_cell BK220.out 2).trans rfl
         have hcz30_3 : wr.cell? ⟨gb220, 3, none⟩ = some (.slice Ao16 t210.length co16) := (blk_cell BK220.out 3).trans rfl
         have hcz30_4 : wr.cell? ⟨gb220, 4, none⟩ = some (.slice Ao18 t213.length co18) := (blk_cell BK220.out 4).trans rfl
         have hcz30_5 : wr.cell? ⟨gb220, 5, none⟩ = some (.slice Ao20 t216.length co20) := (blk_cell BK220.out 5).trans rfl
         have hfz30_0 := blk_frozen BK220.out 0
         have hfz30_1 := blk_frozen BK220.out 1
         have hfz30_2 := blk_frozen BK220.out 2
         have hfz30_3 := blk_frozen BK220.out 3
         have hfz30_4 := blk_frozen BK220.out 4
         have hfz30_5 := blk_frozen BK220.out 5
         go_wp2
         go_meet
         case rel => exact ⟨_, (false), oS, H', ⟨by have := HK1.out; have := HK2.out; first | omega | exact Nat.le_refl _⟩, ⟨by (with_reducible repeat (first | apply Kd.R_alloc | apply Kd.R_drewN | apply Kd.R_drew)); exact HO_5.out⟩, ⟨by (with_reducible repeat (first | apply Kd.R_alloc | apply Kd.R_drewN | apply Kd.R_drew)); exact HO_221003.out⟩, ⟨by (with_reducible repeat (first | apply Kd.R_alloc | apply Kd.R_drewN | apply Kd.R_drew)); exact HO_221004.out⟩, ⟨by (with_reducible repeat (first | apply Kd.R_alloc | apply Kd.R_drewN | apply Kd.R_drew)); exact HO_221005.out⟩, ⟨oF BK202⟩, ⟨oF BK220⟩, ⟨by repeat (first | (with_reducible first | exact HB.out | apply below_alloc | apply pw_below_drewN | apply below_drew1 | refine below_set ?_ GE202.out | refine below_set ?_ GE220.out) | exact HB.out)⟩⟩
       case rest =>
        clear HC22
        try clear c1
        try clear c2
        try clear p2
        try clear q2
        try clear hx2
        try clear c3
        try clear c4
        try clear c6
        try clear c6b0
        try clear c7
        try clear c7b0
        try clear p20
        try clear q20
        try clear hx20
        try clear c23
        try clear c23b0
        try clear c23b2
        try clear c24
        try clear c25
        try clear c27
        try clear c29
        try clear c30
        try clear hcz26_0
        try clear hcz26_1
        try clear hcz26_2
        try clear hcz26_3
        try clear hcz26_4
        try clear hcz26_5
        try clear hcz28_0
        try clear hcz28_1
        try clear hcz28_2
        try clear hcz28_3
        try clear hcz28_4
        try clear hcz28_5
        try clear hcz30_0
        try clear hcz30_1
        try clear hcz30_2
        try clear hcz30_3
        try clear hcz30_4
        try clear hcz30_5
        try clear hfz26_0
        try clear hfz26_1
        try clear hfz26_2
        try clear hfz26_3
        try clear hfz26_4
        try clear hfz26_5
        try clear hfz28_0
        try clear hfz28_1
        try clear hfz28_2
        try clear hfz28_3
        try clear hfz28_4
        try clear hfz28_5
        try clear hfz30_0
        try clear hfz30_1
        try clear hfz30_2
        try clear hfz30_3
        try clear hfz30_4
        try clear hfz30_5
        try clear hx206_0
        try clear p2
        try clear p20
        try clear p206
        try clear q2
        try clear q20
        try clear q206
        obtain ⟨kq, x38_21, rfl, HA, HJ21, HO_5, HO_221003, HO_221004, HO_221005, BK202, BK220, HB⟩ := hcut
        cases kq with
        | zero => exact absurd HA.out (by simp [spec_l7Next.j2])
        | succ kj21 =>
         have H := HA.out
         clear HA
         simp only [spec_l7Next.j2] at H
         by_cases c31 : x38_21 = true
         ·subst c31
          have H1 : (if 0 ≤ x9_2 then (if x9_2 < (t213.length : Int) then ((spec_l4At.f kj21 l0_0 a0_1 ((rd_T63 t213 x9_2).f1)).bind fun t222 => (if t222 ≥ 0 then ((spec_l7Put.f kj21 x5_2 ((rd_T63 t213 x9_2).f1)).bind fun t224 => (spec_l7Next.l1 kj21 l1 t224 x6_1 t219 (wrap64 (x9_2 + 1)) l0_0 a0_1 t207 t208 t209 t210 t213 t216)) else (spec_l7Next.l1 kj21 l1 x5_2 x6_1 t219 (wrap64 (x9_2 + 1)) l0_0 a0_1 t207 t208 t209 t210 t213 t216))) else (none)) else (none)) = some r := by rw [if_pos rfl] at H; exact H
          clear H
          have H := H1
          clear H1
          by_cases c32 : 0 ≤ x9_2
          ·rw [if_pos c32] at H
           have c32b0 : decide (0 ≤ x9_2) = true := decide_eq_true c32
           clear c32
           by_cases c33 : x9_2 < (t213.length : Int)
           ·rw [if_pos c33] at H
            have c33b0 : decide (x9_2 < (t213.length : Int)) = true := decide_eq_true c33
            clear c33
            replace H := Option.bind_eq_some_iff.mp H
            obtain ⟨t222, A340, H⟩ := H
            replace H : (if t222 ≥ 0 then ((spec_l7Put.f kj21 x5_2 ((rd_T63 t213 x9_2).f1)).bind fun t224 => (spec_l7Next.l1 kj21 l1 t224 x6_1 t219 (wrap64 (x9_2 + 1)) l0_0 a0_1 t207 t208 t209 t210 t213 t216)) else (spec_l7Next.l1 kj21 l1 x5_2 x6_1 t219 (wrap64 (x9_2 + 1)) l0_0 a0_1 t207 t208 t209 t210 t213 t216)) = some r := H
            have A34 := Aside0.mk A340
            clear A340
            by_cases c35 : t222 ≥ 0
            ·rw [if_pos c35] at H
             have c35b0 : decide (0 ≤ t222) = true := decide_eq_true c35
             clear c35
             replace H := Option.bind_eq_some_iff.mp H
             obtain ⟨t224, A360, H⟩ := H
             replace H : (spec_l7Next.l1 kj21 l1 t224 x6_1 t219 (wrap64 (x9_2 + 1)) l0_0 a0_1 t207 t208 t209 t210 t213 t216) = some r := H
             have A36 := Aside0.mk A360
             clear A360
             have H' := Aside0.mk H
             clear H
             try go_wp2
             have n0_ := Aside0.mk (Kd.R_drew HO_5.out)
             have n1_ := Aside0.mk (Kd.R_drew HO_221003.out)
             have n2_ := Aside0.mk (Kd.R_drew HO_221004.out)
             have n3_ := Aside0.mk (Kd.R_drew HO_221005.out)
             have n4_ := Aside0.mk (blk_drew BK202.out)
             have n5_ := Aside0.mk (blk_drew BK220.out)
             have n6_ := Aside0.mk (below_drew1 HB.out)
             clear HO_5
             clear HO_221003
             clear HO_221004
             clear HO_221005
             clear BK202
             clear BK220
             clear HB
             have HO_5 := n0_
             have HO_221003 := n1_
             have HO_221004 := n2_
             have HO_221005 := n3_
             have BK202 := n4_
             have BK220 := n5_
             have HB := n6_
             clear n0_ n1_ n2_ n3_ n4_ n5_ n6_
             have p221 : 0 ≤ (x9_2 : Int) := oa
             have q221 : x9_2 < (t213.length : Int) := oa
             obtain ⟨ad221, e221, hx221_0, hx221_1⟩ := at_T63 (Kd.R_reads' HO_221004.out).2.2 x9_2 p221 q221
             cases e221
             replace p221 := eq_true p221
             replace q221 := eq_true q221
             refine st_ 9 (fun w' => w'.cell? ⟨gb202, 0, none⟩ = some (.slice A0_0 l0_0.length c0_0) ∧ w'.cell? ⟨gb202, 1, none⟩ = some (.int .i64 a0_1) ∧ w'.cell? ⟨gb220, 0, none⟩ = some (.int .i64 t207) ∧ w'.cell? ⟨gb220, 1, none⟩ = some (.int .i64 t208) ∧ w'.cell? ⟨gb220, 2, none⟩ = some (.int .i64 t209) ∧ w'.cell? ⟨gb220, 3, none⟩ = some (.slice Ao16 t210.length co16) ∧ w'.cell? ⟨gb220, 4, none⟩ = some (.slice (some ad221) t213.length co18) ∧ w'.cell? ⟨gb220, 5, none⟩ = some (.slice Ao20 t216.length co20) ∧ w'.cell? (ad221.add ((x9_2).toNat * 2)) = some (.string ((rd_T63 t213 x9_2).f0)) ∧ w'.cell? ⟨(ad221.add ((x9_2).toNat * 2)).block, (ad221.add ((x9_2).toNat * 2)).off + 1, none⟩ = some (.int .i64 ((rd_T63 t213 x9_2).f1))) spec_l7Next.tab9 spec_l7Next.bits9 ⟨(blk_cell BK202.out 0).trans rfl, (blk_cell BK202.out 1).trans rfl, (blk_cell BK220.out 0).trans rfl, (blk_cell BK220.out 1).trans rfl, (blk_cell BK220.out 2).trans rfl, (blk_cell BK220.out 3).trans rfl, (blk_cell BK220.out 4).trans rfl, (blk_cell BK220.out 5).trans rfl, hx221_0, hx221_1⟩ (fun hHeld HT_ HW_ => ?_)
             generalize wc.drew = w37 at HO_5 HO_221003 HO_221004 HO_221005 BK202 BK220 HB hx221_0 hx221_1 hHeld ⊢
             refine pu_ 1 42 HT_ ?_
             refine pu_ 3 44 HT_ ?_
             refine ta_ 0 41 HT_ HW_ hHeld ?_
             refine ta_ 2 43 HT_ HW_ hHeld ?_
             refine pu_ 4 45 HT_ ?_
             refine pu_ 5 46 HT_ ?_
             refine ta_ 6 47 HT_ HW_ hHeld ?_
             refine on_ 7 48 HT_ (fun K hK => ?_)
             refine goes_ Tryz.func29 (by kernel_rfl) rfl #[.agg #[.slice A0_0 l0_0.length c0_0, .int .i64 a0_1], .int .i64 ((rd_T63 t213 x9_2).f1)] (by rfl) rfl rfl oL ?_
             with_reducible refine (spec_l4At.calls kj21 _ _ l0_0 a0_1 ((rd_T63 t213 x9_2).f1) t222 _ ?side1 ?side2 A34.out).mono ?_
             (case side1 => repeat (first | exact (Kd.C_below HR0_0.out HB.out) | (with_reducible refine Kd.C_alloc ?_ _) | (with_reducible refine Kd.C_drewN ?_ _) | (with_reducible refine Kd.C_drew ?_)))
             (case side2 => exact HC0_0.out)
             rintro e w38 ⟨rfl, hb⟩
             have HS8_ := (hb.cell (World.block_lt_of_cell? _ _ (hHeld.2.2.2.2.2.2.2.2.1))).trans (hHeld.2.2.2.2.2.2.2.2.1)
             have HS9_ := (hb.cell (World.block_lt_of_cell? _ _ (hHeld.2.2.2.2.2.2.2.2.2))).trans (hHeld.2.2.2.2.2.2.2.2.2)
             refine ⟨_, rfl, ?_⟩
             have n0_ := beR0 HO_5 hb
             have n1_ := beR0 HO_221003 hb
             have n2_ := beR0 HO_221004 hb
             have n3_ := beR0 HO_221005 hb
             have n4_ := kb_ BK202 hb
             have n5_ := kb_ BK220 hb
             have n6_ := Aside0.mk (below_step (by repeat (first | (with_reducible first | exact HB.out | apply below_alloc | apply pw_below_drewN | apply below_drew1 | refine below_set ?_ GE202.out | refine below_set ?_ GE220.out) | exact HB.out)) hb)
             clear HO_5
             clear HO_221003
             clear HO_221004
             clear HO_221005
             clear BK202
             clear BK220
             clear HB
             have HO_5 := n0_
             have HO_221003 := n1_
             have HO_221004 := n2_
             have HO_221005 := n3_
             have BK202 := n4_
             have BK220 := n5_
             have HB := n6_
             clear n0_ n1_ n2_ n3_ n4_ n5_ n6_
             (try clear hb)
             (try clear hb2)
             (try clear hk)
             (try clear hi)
             refine hk_ hK 48 ⟨(blk_cell BK202.out 0).trans rfl, (blk_cell BK202.out 1).trans rfl, (blk_cell BK220.out 0).trans rfl, (blk_cell BK220.out 1).trans rfl, (blk_cell BK220.out 2).trans rfl, (blk_cell BK220.out 3).trans rfl, (blk_cell BK220.out 4).trans rfl, (blk_cell BK220.out 5).trans rfl, HS8_, HS9_⟩ (fun hHeld => ?_)
             clear hK K
             refine pu_ 8 49 HT_ ?_
             refine dn_ HT_ ?_
             have hnb39 := NB220_202.out
             have hnc39 := NB202_220.out
             have hcz40_0 : w38.cell? ⟨gb220, 0, none⟩ = some (.int .i64 t207) := (blk_cell BK220.out 0).trans rfl
             have hcz40_1 : w38.cell? ⟨gb220, 1, none⟩ = some (.int .i64 t208) := (blk_cell BK220.out 1).trans rfl
             have hcz40_2 : w38.cell? ⟨gb220, 2, none⟩ = some (.int .i64 t209) := (blk_cell BK220.out 2).trans rfl
             have hcz40_3 : w38.cell? ⟨gb220, 3, none⟩ = some (.slice Ao16 t210.length co16) := (blk_cell BK220.out 3).trans rfl
             have hcz40_4 : w38.cell? ⟨gb220, 4, none⟩ = some (.slice (some ad221) t213.length co18) := (blk_cell BK220.out 4).trans rfl
             have hcz40_5 : w38.cell? ⟨gb220, 5, none⟩ = some (.slice Ao20 t216.length co20) := (blk_cell BK220.out 5).trans rfl
             have hfz40_0 := blk_frozen BK220.out 0
             have hfz40_1 := blk_frozen BK220.out 1
             have hfz40_2 := blk_frozen BK220.out 2
             have hfz40_3 := blk_frozen BK220.out 3
             have hfz40_4 := blk_frozen BK220.out 4
             have hfz40_5 := blk_frozen BK220.out 5
             have p223 : 0 ≤ (x9_2 : Int) := oa
             have q223 : x9_2 < (t213.length : Int) := oa
             obtain ⟨ad223, e223, hx223_0, hx223_1⟩ := at_T63 (Kd.R_reads' HO_221004.out).2.2 x9_2 p223 q223
             obtain rfl : ad221 = ad223 := (by injection e223)
             replace p223 := eq_true p223
             replace q223 := eq_true q223
             obtain ⟨Ao41, co41, eo41⟩ := Kd.R_slice HO_5.out
             subst eo41
             try go_wp2_with (first | ((with_reducible refine gate_callee (f := 80) rfl ?_); refine goesL_ (some 57) rfl rfl Tryz.func80 (by kernel_rfl) rfl #[.slice Ao41 x5_2.length co41, .int .i64 ((rd_T63 t213 x9_2).f1)] rfl oL ?_; (with_reducible refine (spec_l7Put.calls kj21 _ _ x5_2 ((rd_T63 t213 x9_2).f1) t224 b0 _ ?side1 ?side2 A36.out).mono ?_); (case side1 => exact Nat.le_trans HB0.out (below_size oB)); (case side2 => exact (nR0 HO_5)); rintro e w42 ⟨v225, rfl, ho0, hb⟩; refine ⟨_, rfl, ?_⟩; have n0_ := beR0 HO_5 hb; have n1_ := beR0 HO_221003 hb; have n2_ := beR0 HO_221004 hb; have n3_ := beR0 HO_221005 hb; have n4_ := Aside0.mk ho0; have n5_ := kb_ BK202 hb; have n6_ := kb_ BK220 hb; have n7_ := Aside0.mk (below_step (by repeat (first | (with_reducible first | exact HB.out | apply below_alloc | apply pw_below_drewN | apply below_drew1 | refine below_set ?_ GE202.out | refine below_set ?_ GE220.out) | exact HB.out)) hb); clear HO_5; clear HO_221003; clear HO_221004; clear HO_221005; clear BK202; clear BK220; clear HB; have HO_5 := n0_; have HO_221003 := n1_; have HO_221004 := n2_; have HO_221005 := n3_; have HO226 := n4_; have BK202 := n5_; have BK220 := n6_; have HB := n7_; clear n0_ n1_ n2_ n3_ n4_ n5_ n6_ n7_; (try clear hb); (try clear hb2); (try clear hk); (try clear hi); (try clear ho0)))
             go_roundg kj21
             case measure => have := HK1.out; have := HK2.out; have := HJ21.out; omega
             case rel => exact ⟨(t224), (wrap64 (x9_2 + 1)), oS, H', ⟨by have := HK1.out; have := HK2.out; have := HJ21.out; omega⟩, ⟨by (with_reducible repeat (first | apply Kd.R_alloc | apply Kd.R_drewN | apply Kd.R_drew)); exact Kd.R_mono HO226.out (fun _ hk => trivial)⟩, ⟨by (with_reducible repeat (first | apply Kd.R_alloc | apply Kd.R_drewN | apply Kd.R_drew)); exact HO_221003.out⟩, ⟨by (with_reducible repeat (first | apply Kd.R_alloc | apply Kd.R_drewN | apply Kd.R_drew)); exact HO_221004.out⟩, ⟨by (with_reducible repeat (first | apply Kd.R_alloc | apply Kd.R_drewN | apply Kd.R_drew)); exact HO_221005.out⟩, ⟨oF BK202⟩, ⟨oF BK220⟩, ⟨by repeat (first | (with_reducible first | exact HB.out | apply below_alloc | apply pw_below_drewN | apply below_drew1 | refine below_set ?_ GE202.out | refine below_set ?_ GE220.out) | exact HB.out)⟩⟩
            ·rw [if_neg c35] at H
             have c35b0 : decide (0 ≤ t222) = false := decide_eq_false c35
             clear c35
             have H' := Aside0.mk H
             clear H
             try go_wp2
             have n0_ := Aside0.mk (Kd.R_drew HO_5.out)
             have n1_ := Aside0.mk (Kd.R_drew HO_221003.out)
             have n2_ := Aside0.mk (Kd.R_drew HO_221004.out)
             have n3_ := Aside0.mk (Kd.R_drew HO_221005.out)
             have n4_ := Aside0.mk (blk_drew BK202.out)
             have n5_ := Aside0.mk (blk_drew BK220.out)
             have n6_ := Aside0.mk (below_drew1 HB.out)
             clear HO_5
             clear HO_221003
             clear HO_221004
             clear HO_221005
             clear BK202
             clear BK220
             clear HB
             have HO_5 := n0_
             have HO_221003 := n1_
             have HO_221004 := n2_
             have HO_221005 := n3_
             have BK202 := n4_
             have BK220 := n5_
             have HB := n6_
             clear n0_ n1_ n2_ n3_ n4_ n5_ n6_
             have p221 : 0 ≤ (x9_2 : Int) := oa
             have q221 : x9_2 < (t213.length : Int) := oa
             obtain ⟨ad221, e221, hx221_0, hx221_1⟩ := at_T63 (Kd.R_reads' HO_221004.out).2.2 x9_2 p221 q221
             cases e221
             replace p221 := eq_true p221
             replace q221 := eq_true q221
             refine st_ 9 (fun w' => w'.cell? ⟨gb202, 0, none⟩ = some (.slice A0_0 l0_0.length c0_0) ∧ w'.cell? ⟨gb202, 1, none⟩ = some (.int .i64 a0_1) ∧ w'.cell? ⟨gb220, 0, none⟩ = some (.int .i64 t207) ∧ w'.cell? ⟨gb220, 1, none⟩ = some (.int .i64 t208) ∧ w'.cell? ⟨gb220, 2, none⟩ = some (.int .i64 t209) ∧ w'.cell? ⟨gb220, 3, none⟩ = some (.slice Ao16 t210.length co16) ∧ w'.cell? ⟨gb220, 4, none⟩ = some (.slice (some ad221) t213.length co18) ∧ w'.cell? ⟨gb220, 5, none⟩ = some (.slice Ao20 t216.length co20) ∧ w'.cell? (ad221.add ((x9_2).toNat * 2)) = some (.string ((rd_T63 t213 x9_2).f0)) ∧ w'.cell? ⟨(ad221.add ((x9_2).toNat * 2)).block, (ad221.add ((x9_2).toNat * 2)).off + 1, none⟩ = some (.int .i64 ((rd_T63 t213 x9_2).f1))) spec_l7Next.tab9 spec_l7Next.bits9 ⟨(blk_cell BK202.out 0).trans rfl, (blk_cell BK202.out 1).trans rfl, (blk_cell BK220.out 0).trans rfl, (blk_cell BK220.out 1).trans rfl, (blk_cell BK220.out 2).trans rfl, (blk_cell BK220.out 3).trans rfl, (blk_cell BK220.out 4).trans rfl, (blk_cell BK220.out 5).trans rfl, hx221_0, hx221_1⟩ (fun hHeld HT_ HW_ => ?_)
             generalize wc.drew = w43 at HO_5 HO_221003 HO_221004 HO_221005 BK202 BK220 HB hx221_0 hx221_1 hHeld ⊢
             refine pu_ 1 42 HT_ ?_
             refine pu_ 3 44 HT_ ?_
             refine ta_ 0 41 HT_ HW_ hHeld ?_
             refine ta_ 2 43 HT_ HW_ hHeld ?_
             refine pu_ 4 45 HT_ ?_
             refine pu_ 5 46 HT_ ?_
             refine ta_ 6 47 HT_ HW_ hHeld ?_
             refine on_ 7 48 HT_ (fun K hK => ?_)
             refine goes_ Tryz.func29 (by kernel_rfl) rfl #[.agg #[.slice A0_0 l0_0.length c0_0, .int .i64 a0_1], .int .i64 ((rd_T63 t213 x9_2).f1)] (by rfl) rfl rfl oL ?_
             with_reducible refine (spec_l4At.calls kj21 _ _ l0_0 a0_1 ((rd_T63 t213 x9_2).f1) t222 _ ?side1 ?side2 A34.out).mono ?_
             (case side1 => repeat (first | exact (Kd.C_below HR0_0.out HB.out) | (with_reducible refine Kd.C_alloc ?_ _) | (with_reducible refine Kd.C_drewN ?_ _) | (with_reducible refine Kd.C_drew ?_)))
             (case side2 => exact HC0_0.out)
             rintro e w44 ⟨rfl, hb⟩
             have HS8_ := (hb.cell (World.block_lt_of_cell? _ _ (hHeld.2.2.2.2.2.2.2.2.1))).trans (hHeld.2.2.2.2.2.2.2.2.1)
             have HS9_ := (hb.cell (World.block_lt_of_cell? _ _ (hHeld.2.2.2.2.2.2.2.2.2))).trans (hHeld.2.2.2.2.2.2.2.2.2)
             refine ⟨_, rfl, ?_⟩
             have n0_ := beR0 HO_5 hb
             have n1_ := beR0 HO_221003 hb
             have n2_ := beR0 HO_221004 hb
             have n3_ := beR0 HO_221005 hb
             have n4_ := kb_ BK202 hb
             have n5_ := kb_ BK220 hb
             have n6_ := Aside0.mk (below_step (by repeat (first | (with_reducible first | exact HB.out | apply below_alloc | apply pw_below_drewN | apply below_drew1 | refine below_set ?_ GE202.out | refine below_set ?_ GE220.out) | exact HB.out)) hb)
             clear HO_5
             clear HO_221003
             clear HO_221004
             clear HO_221005
             clear BK202
             clear BK220
             clear HB
             have HO_5 := n0_
             have HO_221003 := n1_
             have HO_221004 := n2_
             have HO_221005 := n3_
             have BK202 := n4_
             have BK220 := n5_
             have HB := n6_
             clear n0_ n1_ n2_ n3_ n4_ n5_ n6_
             (try clear hb)
             (try clear hb2)
             (try clear hk)
             (try clear hi)
             refine hk_ hK 48 ⟨(blk_cell BK202.out 0).trans rfl, (blk_cell BK202.out 1).trans rfl, (blk_cell BK220.out 0).trans rfl, (blk_cell BK220.out 1).trans rfl, (blk_cell BK220.out 2).trans rfl, (blk_cell BK220.out 3).trans rfl, (blk_cell BK220.out 4).trans rfl, (blk_cell BK220.out 5).trans rfl, HS8_, HS9_⟩ (fun hHeld => ?_)
             clear hK K
             refine pu_ 8 49 HT_ ?_
             refine dn_ HT_ ?_
             try go_wp2
             go_roundg kj21
             case measure => have := HK1.out; have := HK2.out; have := HJ21.out; omega
             case rel => exact ⟨(x5_2), (wrap64 (x9_2 + 1)), oS, H', ⟨by have := HK1.out; have := HK2.out; have := HJ21.out; omega⟩, ⟨by (with_reducible repeat (first | apply Kd.R_alloc | apply Kd.R_drewN | apply Kd.R_drew)); exact HO_5.out⟩, ⟨by (with_reducible repeat (first | apply Kd.R_alloc | apply Kd.R_drewN | apply Kd.R_drew)); exact HO_221003.out⟩, ⟨by (with_reducible repeat (first | apply Kd.R_alloc | apply Kd.R_drewN | apply Kd.R_drew)); exact HO_221004.out⟩, ⟨by (with_reducible repeat (first | apply Kd.R_alloc | apply Kd.R_drewN | apply Kd.R_drew)); exact HO_221005.out⟩, ⟨oF BK202⟩, ⟨oF BK220⟩, ⟨by repeat (first | (with_reducible first | exact HB.out | apply below_alloc | apply pw_below_drewN | apply below_drew1 | refine below_set ?_ GE202.out | refine below_set ?_ GE220.out) | exact HB.out)⟩⟩
           ·rw [if_neg c33] at H
            exact absurd H (by simp)
          ·rw [if_neg c32] at H
           exact absurd H (by simp)
         ·replace c31 := Bool.eq_false_iff.mpr c31
          subst c31
          have H1 : (spec_l7Next.l0 kj21 l1 x5_2 (wrap64 (x6_1 + 1)) l0_0 a0_1) = some r := by rw [if_neg (show ¬ (false = true) by decide)] at H; exact H
          clear H
          have H := H1
          clear H1
          have H' := Aside0.mk H
          clear H
          go_wp2
          go_roundg kj21
          case measure => have := HK1.out; have := HK2.out; have := HJ21.out; omega
          case rel => exact ⟨(x5_2), (wrap64 (x6_1 + 1)), oS, H', ⟨by have := HK1.out; have := HK2.out; have := HJ21.out; omega⟩, ⟨by (with_reducible repeat (first | apply Kd.R_alloc | apply Kd.R_drewN | apply Kd.R_drew)); exact HO_5.out⟩, ⟨oF BK202⟩, ⟨by repeat (first | (with_reducible first | exact HB.out | apply below_alloc | apply pw_below_drewN | apply below_drew1 | refine below_set ?_ GE202.out | refine below_set ?_ GE220.out) | exact HB.out)⟩⟩
    ·rw [if_neg c7] at H
     exact absurd H (by simp)
   ·rw [if_neg c6] at H
    have c6b0 : decide (x6_1 < (l1.length : Int)) = false := decide_eq_false c6
    clear c6
    obtain rfl := Option.some.inj H
    go_wp2
    go_ret
    exact ⟨_, oE, by (with_reducible repeat (first | apply Kd.R_alloc | apply Kd.R_drewN | apply Kd.R_drew)); exact HO_5.out, by repeat (first | (with_reducible first | exact HB.out | apply below_alloc | apply pw_below_drewN | apply below_drew1 | refine below_set ?_ GE202.out) | exact HB.out)⟩

end Go.Proofs.YtolkhimbfegkkaaGreat.P
