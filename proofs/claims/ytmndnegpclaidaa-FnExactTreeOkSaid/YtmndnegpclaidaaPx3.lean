-- By this session's own program (wip/myprint.py) out of the translation; Lean checks it.
import Derived.Test.YtmndnegpclaidaaPx0
import Derived.Test.YtmndnegpclaidaaPx2
namespace Go.Proofs.Ytmndnegpclaidaa.P
open Go.RowKit Go.Proofs.YtmndnegpclaidaaW.PrintWords Go.Proofs.YtmndnegpclaidaaW.PrintLast Go.Proofs.YtmndnegpclaidaaW.PrintMore
attribute [local go_sem] max2_int min2_int max_two min_two max_three min_three max_four min_four   -- for this text's walks alone
set_option linter.unusedVariables false
set_option linter.unusedSimpArgs false

/-! ### spec_l7Next: function 57 -/
mutual
def spec_l7Next.l0 : Nat → List Int → List Int → Int → List (S40) → Int → Option (List Int)
 | 0, _, _, _, _, _ => none
 | k + 1, x1, x5, x6, x257000, x257001 => if x6 < (x1.length : Int) then (if 0 ≤ x6 then ((spec_InodeAt.f k x257000 x257001 (rd x1 x6)).bind fun bt261 => (spec_l7Next.l1 k x1 x5 x6 bt261.2.2.2.2.2.2 0 x257000 x257001 bt261.1 bt261.2.1 bt261.2.2.1 bt261.2.2.2.1 bt261.2.2.2.2.1 bt261.2.2.2.2.2.1)) else (none)) else (some x5)
def spec_l7Next.l1 : Nat → List Int → List Int → Int → Bool → Int → List (S40) → Int → Int → Int → Int → List Int → List (S82) → List (S90) → Option (List Int)
 | 0, _, _, _, _, _, _, _, _, _, _, _, _, _ => none
 | k + 1, x1, x5, x6, x8, x9, x257000, x257001, x275000, x275001, x275002, x275003, x275004, x275005 => if x9 < (x275004.length : Int) then (if x8 = true then (spec_l7Next.j2 k x1 x5 x6 x8 x9 (x275001 == 2) x257000 x257001 x275000 x275001 x275002 x275003 x275004 x275005) else (spec_l7Next.j2 k x1 x5 x6 x8 x9 false x257000 x257001 x275000 x275001 x275002 x275003 x275004 x275005)) else (spec_l7Next.j2 k x1 x5 x6 x8 x9 false x257000 x257001 x275000 x275001 x275002 x275003 x275004 x275005)
def spec_l7Next.j2 : Nat → List Int → List Int → Int → Bool → Int → Bool → List (S40) → Int → Int → Int → Int → List Int → List (S82) → List (S90) → Option (List Int)
 | 0, _, _, _, _, _, _, _, _, _, _, _, _, _, _ => none
 | k + 1, x1, x5, x6, x8, x9, x38, x257000, x257001, x275000, x275001, x275002, x275003, x275004, x275005 => if x38 = true then (if 0 ≤ x9 then (if x9 < (x275004.length : Int) then ((spec_l4At.f k x257000 x257001 ((rd_T82 x275004 x9).f1)).bind fun t276 => (if t276 ≥ 0 then ((spec_l7Put.f k x5 ((rd_T82 x275004 x9).f1)).bind fun t278 => (spec_l7Next.l1 k x1 t278 x6 x8 (wrap64 (x9 + 1)) x257000 x257001 x275000 x275001 x275002 x275003 x275004 x275005)) else (spec_l7Next.l1 k x1 x5 x6 x8 (wrap64 (x9 + 1)) x257000 x257001 x275000 x275001 x275002 x275003 x275004 x275005))) else (none)) else (none)) else (spec_l7Next.l0 k x1 x5 (wrap64 (x6 + 1)) x257000 x257001)
end
def spec_l7Next.f (k : Nat) (l0_0 : List (S40)) (a0_1 : Int) (l1 : List Int) : Option (List Int) := spec_l7Next.l0 k l1 l1 0 l0_0 a0_1
def spec_l7Next.T5 : Bool × List (List Nat × List Nat) := (true, [([], []), ([], []), ([], []), ([1, 2], [1, 2]), ([3], [3]), ([0, 4], [0, 4]), ([5], [5]), ([6], [6]), ([6], [6]), ([], []), ([9, 7, 5, 0, 1, 2, 3, 4, 5, 6, 7, 9], [7, 9]), ([8, 10, 0, 1, 2, 3, 4, 5, 6, 7, 8, 9, 10], [8])])
def spec_l7Next.B5 : List Nat := [0, 0, 0, 6, 14, 31, 63, 127, 127, 0, 767, 2047]
theorem spec_l7Next.tab5 : rtab .any (opsOf Try.f57 5) = spec_l7Next.T5 := by kernel_rfl
theorem spec_l7Next.bits5 : waitsOk spec_l7Next.T5.2 spec_l7Next.B5 = true := by kernel_rfl
def spec_l7Next.T9 : Bool × List (List Nat × List Nat) := (true, [([], []), ([], []), ([1], [1]), ([], []), ([2, 3], [2, 3]), ([4], [4]), ([5], [5]), ([0, 6], [0, 6]), ([7], [7])])
def spec_l7Next.B9 : List Nat := [0, 0, 2, 0, 14, 30, 62, 127, 255]
theorem spec_l7Next.tab9 : rtab .any (opsOf Try.f57 9) = spec_l7Next.T9 := by kernel_rfl
theorem spec_l7Next.bits9 : waitsOk spec_l7Next.T9.2 spec_l7Next.B9 = true := by kernel_rfl
set_option maxHeartbeats 8000000 in
set_option maxRecDepth 100000 in
theorem spec_l7Next.calls (k : Nat) (A0_0 : Option Addr) (c0_0 : Nat) (l0_0 : List (S40)) (a0_1 : Int) (A1 : Option Addr) (c1 : Nat) (l1 : List Int) (r : List Int) (b0 : Nat) (w : World) (hb0 : b0 ≤ w.heap.size) (hr0_0 : Kd.C k40 w A0_0 l0_0.length l0_0) (hc0_0 : l0_0.length ≤ c0_0) (ho1 : Kd.R (Kd.int .i64) 3 w b0 (fun _ => True) (.slice A1 l1.length c1) l1) (h : spec_l7Next.f k l0_0 a0_1 l1 = some r) :
  Calls Try.prog 57 #[.agg #[.slice A0_0 l0_0.length c0_0, .int .i64 a0_1], .slice A1 l1.length c1] w fun e w' => ∃ v0_ : Value, e = .returned (v0_) ∧ Kd.R (Kd.int .i64) 3 w' b0 (fun _ => True) v0_ r ∧ Below w.heap.size w w' := by
 have hu34 := Try.underlying34
 have hu40 := Try.underlying40
 have HR0_0 := Aside0.mk hr0_0
 have HC0_0 := Aside0.mk hc0_0
 clear hr0_0 hc0_0
 have HR1 := Aside0.mk (Kd.R_reads' ho1).2.2
 have HC1 := Aside0.mk (Kd.R_reads' ho1).2.1
 have HO00 := Aside0.mk ho1
 have HB0 := Aside0.mk hb0
 clear ho1 hb0
 have HB := Aside0.mk (Below.refl w.heap.size w)
 have H : (spec_l7Next.l0 k l1 l1 0 l0_0 a0_1) = some r := h
 clear h
 have H' := Aside0.mk H
 clear H
 go_enter Try.func57, Try.ntmps57
 go_wp2_with (first | ((with_reducible refine gate_dst (N := 2) rfl ?_); refine box_event ?hg (N := 2) ?hd (cs := #[.slice A0_0 l0_0.length c0_0, .int .i64 a0_1]) (t := 34) ?hr ?_; (case hd => rfl); (case hg => rfl); (case hr => first | (go_simp; done) | (go_simp; rfl)); intro gb256 hg w3 hbox hb; have n0_ := Aside0.mk (below_step oB hb); have n1_ := Aside0.mk (hbox); have n2_ := Aside0.mk ((by rw [hg]; exact (below_size oB) : w.heap.size ≤ gb256)); have n3_ := Aside0.mk ((by rw [hg]; exact (below_size oB) : w.heap.size ≤ gb256)); clear HB; have HB := n0_; have BK256 := n1_; have GW256 := n2_; have GE256 := n3_; clear n0_ n1_ n2_ n3_; have HO259 := Aside0.mk (Kd.R_below HO00.out hb); clear hb hbox hg))
 go_loopg [5, 6] k (fun kq v5 v6 w' => ∃ (x5_1 : List Int) (x6_1 : Int), v6 = .int .i64 x6_1 ∧ Aside0 (spec_l7Next.l0 kq l1 x5_1 x6_1 l0_0 a0_1 = some r) ∧ Aside0 (kq ≤ k) ∧ Aside0 (Kd.R (Kd.int .i64) 3 w' b0 (fun _ => True) v5 x5_1) ∧ Aside0 (w'.heap[gb256]? = some (.cells #[(.slice A0_0 l0_0.length c0_0), .int .i64 a0_1] 34 (0, 0))) ∧ Aside0 (Below w.heap.size w w'))
 case atStart => exact ⟨(l1), (0), oS, H', ⟨Nat.le_refl _⟩, ⟨by (with_reducible repeat (first | apply Kd.R_alloc | apply Kd.R_drewN | apply Kd.R_drew)); exact HO259.out⟩, ⟨oF BK256⟩, ⟨by repeat (first | (with_reducible first | exact HB.out | apply below_alloc | apply pw_below_drewN | apply below_drew1 | refine below_set ?_ GE256.out) | exact HB.out)⟩⟩
 case round =>
  clear H'
  try clear c1
  try clear p2
  try clear c5
  obtain ⟨x5_1, x6_1, rfl, HA, HK1, HO_5, BK256, HB⟩ := hrel
  cases gk with
  | zero => exact absurd HA.out (by simp [spec_l7Next.l0])
  | succ k1 =>
   have H := HA.out
   clear HA
   simp only [spec_l7Next.l0] at H
   by_cases c6 : x6_1 < (l1.length : Int)
   ·rw [if_pos c6] at H
    have c6b0 : decide (x6_1 < (l1.length : Int)) = true := decide_eq_true c6
    clear c6
    by_cases c7 : 0 ≤ x6_1
    ·rw [if_pos c7] at H
     have c7b0 : decide (0 ≤ x6_1) = true := decide_eq_true c7
     clear c7
     replace H := Option.bind_eq_some_iff.mp H
     obtain ⟨⟨t261, t262, t263, t264, t267, t270, t273⟩, A80, H⟩ := H
     replace H : (spec_l7Next.l1 k1 l1 x5_1 x6_1 t273 0 l0_0 a0_1 t261 t262 t263 t264 t267 t270) = some r := H
     have A8 := Aside0.mk A80
     clear A80
     have H' := Aside0.mk H
     clear H
     try go_wp2
     have n0_ := Aside0.mk (Kd.R_drew HO_5.out)
     have n1_ := Aside0.mk (blk_drew BK256.out)
     have n2_ := Aside0.mk (below_drew1 HB.out)
     clear HO_5
     clear BK256
     clear HB
     have HO_5 := n0_
     have BK256 := n1_
     have HB := n2_
     clear n0_ n1_ n2_
     have p260 : 0 ≤ (x6_1 : Int) := oa
     have q260 : x6_1 < (l1.length : Int) := oa
     obtain ⟨ad260, e260, hx260_0⟩ := Kd.at_int HR1.out x6_1 p260 q260
     have hw260_0 := hx260_0
     cases e260
     replace hx260_0 := (HB.out.cell (World.block_lt_of_cell? w _ hx260_0)).trans hx260_0
     replace p260 := eq_true p260
     replace q260 := eq_true q260
     refine st_ 12 (fun w' => w'.cell? ⟨gb256, 0, none⟩ = some (.slice A0_0 l0_0.length c0_0) ∧ w'.cell? ⟨gb256, 1, none⟩ = some (.int .i64 a0_1) ∧ w'.cell? (ad260.add (x6_1).toNat) = some (.int .i64 (rd l1 x6_1))) spec_l7Next.tab5 spec_l7Next.bits5 oH (fun hHeld HT_ HW_ => ?_)
     generalize wr.drew = w9 at HO_5 BK256 HB hx260_0 hHeld ⊢
     refine pu_ 1 19 HT_ ?_
     refine pu_ 2 20 HT_ ?_
     refine pu_ 3 21 HT_ ?_
     refine ta_ 0 18 HT_ HW_ hHeld ?_
     refine ta_ 4 22 HT_ HW_ hHeld ?_
     refine join_ (σ := Value × Value × Value × Nat) 2 (lb 12 1023) (fun s_ => [(23, .tuple #[.agg #[.int .i64 t261, .int .i64 t262, .int .i64 t263, s_.1, s_.2.1, s_.2.2.1], .bool t273]), (7, .pointer (some ⟨s_.2.2.2, 0, none⟩)), (17, .tuple #[.agg #[.int .i64 t261, .int .i64 t262, .int .i64 t263, s_.1, s_.2.1, s_.2.2.1], .bool t273]), (24, .agg #[.int .i64 t261, .int .i64 t262, .int .i64 t263, s_.1, s_.2.1, s_.2.2.1]), (25, .bool t273)]) (fun s_ w' => (w'.cell? ⟨gb256, 0, none⟩ = some (.slice A0_0 l0_0.length c0_0) ∧ w'.cell? ⟨gb256, 1, none⟩ = some (.int .i64 a0_1) ∧ w'.cell? (ad260.add (x6_1).toNat) = some (.int .i64 (rd l1 x6_1))) ∧ (Kd.R (Kd.int .u8) 5 w' w.heap.size (fun _ => True) s_.1 t264) ∧ (Kd.R k82 82 w' w.heap.size (fun _ => True) s_.2.1 t267) ∧ (Kd.R k90 90 w' w.heap.size (fun _ => True) s_.2.2.1 t270) ∧ (Kd.R (Kd.int .i64) 3 w' b0 (fun _ => True) u5 x5_1) ∧ (w'.heap[gb256]? = some (.cells #[.slice A0_0 l0_0.length c0_0, .int .i64 a0_1] 34 (0, 0))) ∧ (w'.heap[s_.2.2.2]? = some (.cells #[.int .i64 0, .int .i64 0, .int .i64 0, .slice none 0 0, .slice none 0 0, .slice none 0 0] 40 (0, 0))) ∧ (w.heap.size ≤ s_.2.2.2) ∧ (w.heap.size ≤ s_.2.2.2) ∧ (gb256 ≠ s_.2.2.2) ∧ (s_.2.2.2 ≠ gb256) ∧ (Below w.heap.size w w')) ?_ ?_
     rotate_left
     ·intro hCont
      refine two_ (i := 5) (j := 9) (Ni := some 23) (Nj := some 7) (lb 12 63) (lb 12 543) rfl rfl rfl rfl (two_of HT_.out (by kernel_rfl)) (by decide) (by decide) (fun K hK => ?_) (fun K hK => ?_)
      ·skip
       refine goes_ Try.func89 (by kernel_rfl) rfl #[.agg #[.slice A0_0 l0_0.length c0_0, .int .i64 a0_1], .int .i64 (rd l1 x6_1)] (by rfl) rfl rfl oL ?_
       with_reducible refine (spec_InodeAt.calls k1 _ _ l0_0 a0_1 (rd l1 x6_1) t261 t262 t263 t264 t267 t270 t273 _ ?side1 ?side2 A8.out).mono ?_
       (case side1 => repeat (first | exact (Kd.C_below HR0_0.out HB.out) | (with_reducible refine Kd.C_alloc ?_ _) | (with_reducible refine Kd.C_drewN ?_ _) | (with_reducible refine Kd.C_drew ?_)))
       (case side2 => exact HC0_0.out)
       rintro e w10 ⟨v265, v268, v271, rfl, ho0, ho1, ho2, hb⟩
       refine ⟨_, rfl, ?_⟩
       have n0_ := Aside0.mk (Kd.R_below (by (with_reducible repeat (first | apply Kd.R_alloc | apply Kd.R_drewN | apply Kd.R_drew)); exact HO_5.out) hb)
       have n1_ := Aside0.mk (Kd.R_lower ho0 (below_size (by repeat (first | (with_reducible first | exact HB.out | apply below_alloc | apply pw_below_drewN | apply below_drew1 | refine below_set ?_ GE256.out) | exact HB.out))))
       have n2_ := Aside0.mk (Kd.R_lower ho1 (below_size (by repeat (first | (with_reducible first | exact HB.out | apply below_alloc | apply pw_below_drewN | apply below_drew1 | refine below_set ?_ GE256.out) | exact HB.out))))
       have n3_ := Aside0.mk (Kd.R_lower ho2 (below_size (by repeat (first | (with_reducible first | exact HB.out | apply below_alloc | apply pw_below_drewN | apply below_drew1 | refine below_set ?_ GE256.out) | exact HB.out))))
       have n4_ := kb_ BK256 hb
       have n5_ := Aside0.mk (below_step (by repeat (first | (with_reducible first | exact HB.out | apply below_alloc | apply pw_below_drewN | apply below_drew1 | refine below_set ?_ GE256.out) | exact HB.out)) hb)
       clear HO_5
       clear BK256
       clear HB
       have HO_5 := n0_
       have HO266 := n1_
       have HO269 := n2_
       have HO272 := n3_
       have BK256 := n4_
       have HB := n5_
       clear n0_ n1_ n2_ n3_ n4_ n5_
       (try clear hb)
       (try clear hb2)
       (try clear hk)
       (try clear hi)
       (try clear ho0)
       (try clear ho1)
       (try clear ho2)
       refine hk_ hK 23 oH (fun hHeld => ?_)
       clear hK K
       refine pu_ 6 17 HT_ ?_
       refine pu_ 7 24 HT_ ?_
       refine pu_ 8 25 HT_ ?_
       refine on_ 9 7 HT_ (fun K hK => ?_)
       refine box_step ?hg (N := 7) ?hd (cs := #[.int .i64 0, .int .i64 0, .int .i64 0, .slice none 0 0, .slice none 0 0, .slice none 0 0]) (t := 40) ?hr ?_; (case hd => rfl); (case hg => rfl); (case hr => first | (go_simp; done) | (go_simp; rfl))
       intro gb274 hg w11 hbox hb
       have n0_ := Aside0.mk (Kd.R_below (by (with_reducible repeat (first | apply Kd.R_alloc | apply Kd.R_drewN | apply Kd.R_drew)); exact HO_5.out) hb)
       have n1_ := Aside0.mk (Kd.R_below (by (with_reducible repeat (first | apply Kd.R_alloc | apply Kd.R_drewN | apply Kd.R_drew)); exact HO266.out) hb)
       have n2_ := Aside0.mk (Kd.R_below (by (with_reducible repeat (first | apply Kd.R_alloc | apply Kd.R_drewN | apply Kd.R_drew)); exact HO269.out) hb)
       have n3_ := Aside0.mk (Kd.R_below (by (with_reducible repeat (first | apply Kd.R_alloc | apply Kd.R_drewN | apply Kd.R_drew)); exact HO272.out) hb)
       have n4_ := kb_ BK256 hb
       have n5_ := Aside0.mk (below_step (by repeat (first | (with_reducible first | exact HB.out | apply below_alloc | apply pw_below_drewN | apply below_drew1 | refine below_set ?_ GE256.out) | exact HB.out)) hb)
       have n6_ := Aside0.mk (hbox)
       have n7_ := Aside0.mk ((by rw [hg]; exact (below_size (by repeat (first | (with_reducible first | exact HB.out | apply below_alloc | apply pw_below_drewN | apply below_drew1 | refine below_set ?_ GE256.out) | exact HB.out))) : w.heap.size ≤ gb274))
       have n8_ := Aside0.mk ((by rw [hg]; exact (below_size (by repeat (first | (with_reducible first | exact HB.out | apply below_alloc | apply pw_below_drewN | apply below_drew1 | refine below_set ?_ GE256.out) | exact HB.out))) : w.heap.size ≤ gb274))
       have n9_ := Aside0.mk ((by rw [hg]; exact Nat.ne_of_lt (blk_lt (g := gb256) (o := .cells #[.slice A0_0 l0_0.length c0_0, .int .i64 a0_1] 34 (0, 0)) (oF BK256)) : gb256 ≠ gb274))
       have n10_ := Aside0.mk ((by rw [hg]; exact Nat.ne_of_gt (blk_lt (g := gb256) (o := .cells #[.slice A0_0 l0_0.length c0_0, .int .i64 a0_1] 34 (0, 0)) (oF BK256)) : gb274 ≠ gb256))
       clear HO_5
       clear HO266
       clear HO269
       clear HO272
       clear BK256
       clear HB
       have HO_5 := n0_
       have HO266 := n1_
       have HO269 := n2_
       have HO272 := n3_
       have BK256 := n4_
       have HB := n5_
       have BK274 := n6_
       have GW274 := n7_
       have GE274 := n8_
       have NB256_274 := n9_
       have NB274_256 := n10_
       clear n0_ n1_ n2_ n3_ n4_ n5_ n6_ n7_ n8_ n9_ n10_
       clear hb hbox hg
       refine hk_ hK 7 oH (fun hHeld => ?_)
       clear hK K
       exact norm_ (by simp only [putAll, Act.put, List.setIfInBounds_toArray, List.set_cons_zero, List.set_cons_succ]) (hCont (v265, v268, v271, gb274) _ ⟨hHeld, (by (with_reducible repeat (first | apply Kd.R_alloc | apply Kd.R_drewN | apply Kd.R_drew)); exact HO266.out), (by (with_reducible repeat (first | apply Kd.R_alloc | apply Kd.R_drewN | apply Kd.R_drew)); exact HO269.out), (by (with_reducible repeat (first | apply Kd.R_alloc | apply Kd.R_drewN | apply Kd.R_drew)); exact HO272.out), (by (with_reducible repeat (first | apply Kd.R_alloc | apply Kd.R_drewN | apply Kd.R_drew)); exact HO_5.out), (oF BK256), (oF BK274), GW274.out, GE274.out, NB256_274.out, NB274_256.out, (by repeat (first | (with_reducible first | exact HB.out | apply below_alloc | apply pw_below_drewN | apply below_drew1 | refine below_set ?_ GE256.out | refine below_set ?_ GE274.out) | exact HB.out))⟩)
      ·skip
       refine box_step ?hg (N := 7) ?hd (cs := #[.int .i64 0, .int .i64 0, .int .i64 0, .slice none 0 0, .slice none 0 0, .slice none 0 0]) (t := 40) ?hr ?_; (case hd => rfl); (case hg => rfl); (case hr => first | (go_simp; done) | (go_simp; rfl))
       intro gb274 hg w10 hbox hb
       have n0_ := Aside0.mk (Kd.R_below (by (with_reducible repeat (first | apply Kd.R_alloc | apply Kd.R_drewN | apply Kd.R_drew)); exact HO_5.out) hb)
       have n1_ := kb_ BK256 hb
       have n2_ := Aside0.mk (below_step (by repeat (first | (with_reducible first | exact HB.out | apply below_alloc | apply pw_below_drewN | apply below_drew1 | refine below_set ?_ GE256.out) | exact HB.out)) hb)
       have n3_ := Aside0.mk (hbox)
       have n4_ := Aside0.mk ((by rw [hg]; exact (below_size (by repeat (first | (with_reducible first | exact HB.out | apply below_alloc | apply pw_below_drewN | apply below_drew1 | refine below_set ?_ GE256.out) | exact HB.out))) : w.heap.size ≤ gb274))
       have n5_ := Aside0.mk ((by rw [hg]; exact (below_size (by repeat (first | (with_reducible first | exact HB.out | apply below_alloc | apply pw_below_drewN | apply below_drew1 | refine below_set ?_ GE256.out) | exact HB.out))) : w.heap.size ≤ gb274))
       have n6_ := Aside0.mk ((by rw [hg]; exact Nat.ne_of_lt (blk_lt (g := gb256) (o := .cells #[.slice A0_0 l0_0.length c0_0, .int .i64 a0_1] 34 (0, 0)) (oF BK256)) : gb256 ≠ gb274))
       have n7_ := Aside0.mk ((by rw [hg]; exact Nat.ne_of_gt (blk_lt (g := gb256) (o := .cells #[.slice A0_0 l0_0.length c0_0, .int .i64 a0_1] 34 (0, 0)) (oF BK256)) : gb274 ≠ gb256))
       clear HO_5
       clear BK256
       clear HB
       have HO_5 := n0_
       have BK256 := n1_
       have HB := n2_
       have BK274 := n3_
       have GW274 := n4_
       have GE274 := n5_
       have NB256_274 := n6_
       have NB274_256 := n7_
       clear n0_ n1_ n2_ n3_ n4_ n5_ n6_ n7_
       clear hb hbox hg
       refine hk_ hK 7 oH (fun hHeld => ?_)
       clear hK K
       refine on_ 5 23 HT_ (fun K hK => ?_)
       refine goes_ Try.func89 (by kernel_rfl) rfl #[.agg #[.slice A0_0 l0_0.length c0_0, .int .i64 a0_1], .int .i64 (rd l1 x6_1)] (by rfl) rfl rfl oL ?_
       with_reducible refine (spec_InodeAt.calls k1 _ _ l0_0 a0_1 (rd l1 x6_1) t261 t262 t263 t264 t267 t270 t273 _ ?side1 ?side2 A8.out).mono ?_
       (case side1 => repeat (first | exact (Kd.C_below HR0_0.out HB.out) | (with_reducible refine Kd.C_alloc ?_ _) | (with_reducible refine Kd.C_drewN ?_ _) | (with_reducible refine Kd.C_drew ?_)))
       (case side2 => exact HC0_0.out)
       rintro e w11 ⟨v265, v268, v271, rfl, ho0, ho1, ho2, hb⟩
       refine ⟨_, rfl, ?_⟩
       have n0_ := Aside0.mk (Kd.R_below (by (with_reducible repeat (first | apply Kd.R_alloc | apply Kd.R_drewN | apply Kd.R_drew)); exact HO_5.out) hb)
       have n1_ := Aside0.mk (Kd.R_lower ho0 (below_size (by repeat (first | (with_reducible first | exact HB.out | apply below_alloc | apply pw_below_drewN | apply below_drew1 | refine below_set ?_ GE256.out | refine below_set ?_ GE274.out) | exact HB.out))))
       have n2_ := Aside0.mk (Kd.R_lower ho1 (below_size (by repeat (first | (with_reducible first | exact HB.out | apply below_alloc | apply pw_below_drewN | apply below_drew1 | refine below_set ?_ GE256.out | refine below_set ?_ GE274.out) | exact HB.out))))
       have n3_ := Aside0.mk (Kd.R_lower ho2 (below_size (by repeat (first | (with_reducible first | exact HB.out | apply below_alloc | apply pw_below_drewN | apply below_drew1 | refine below_set ?_ GE256.out | refine below_set ?_ GE274.out) | exact HB.out))))
       have n4_ := kb_ BK256 hb
       have n5_ := kb_ BK274 hb
       have n6_ := Aside0.mk (below_step (by repeat (first | (with_reducible first | exact HB.out | apply below_alloc | apply pw_below_drewN | apply below_drew1 | refine below_set ?_ GE256.out | refine below_set ?_ GE274.out) | exact HB.out)) hb)
       clear HO_5
       clear BK256
       clear BK274
       clear HB
       have HO_5 := n0_
       have HO266 := n1_
       have HO269 := n2_
       have HO272 := n3_
       have BK256 := n4_
       have BK274 := n5_
       have HB := n6_
       clear n0_ n1_ n2_ n3_ n4_ n5_ n6_
       (try clear hb)
       (try clear hb2)
       (try clear hk)
       (try clear hi)
       (try clear ho0)
       (try clear ho1)
       (try clear ho2)
       refine hk_ hK 23 oH (fun hHeld => ?_)
       clear hK K
       refine pu_ 6 17 HT_ ?_
       refine pu_ 7 24 HT_ ?_
       refine pu_ 8 25 HT_ ?_
       exact norm_ (by simp only [putAll, Act.put, List.setIfInBounds_toArray, List.set_cons_zero, List.set_cons_succ]) (hCont (v265, v268, v271, gb274) _ ⟨hHeld, (by (with_reducible repeat (first | apply Kd.R_alloc | apply Kd.R_drewN | apply Kd.R_drew)); exact HO266.out), (by (with_reducible repeat (first | apply Kd.R_alloc | apply Kd.R_drewN | apply Kd.R_drew)); exact HO269.out), (by (with_reducible repeat (first | apply Kd.R_alloc | apply Kd.R_drewN | apply Kd.R_drew)); exact HO272.out), (by (with_reducible repeat (first | apply Kd.R_alloc | apply Kd.R_drewN | apply Kd.R_drew)); exact HO_5.out), (oF BK256), (oF BK274), GW274.out, GE274.out, NB256_274.out, NB274_256.out, (by repeat (first | (with_reducible first | exact HB.out | apply below_alloc | apply pw_below_drewN | apply below_drew1 | refine below_set ?_ GE256.out | refine below_set ?_ GE274.out) | exact HB.out))⟩)
     rintro ⟨v265, v268, v271, gb274⟩ w12 ⟨hS_, h0_, h1_, h2_, h3_, h4_, h5_, h6_, h7_, h8_, h9_, h10_⟩
     have n0_ : Aside0 (Kd.R (Kd.int .u8) 5 w12 w.heap.size (fun _ => True) v265 t264) := ⟨h0_⟩
     have n1_ : Aside0 (Kd.R k82 82 w12 w.heap.size (fun _ => True) v268 t267) := ⟨h1_⟩
     have n2_ : Aside0 (Kd.R k90 90 w12 w.heap.size (fun _ => True) v271 t270) := ⟨h2_⟩
     have n3_ : Aside0 (Kd.R (Kd.int .i64) 3 w12 b0 (fun _ => True) u5 x5_1) := ⟨h3_⟩
     have n4_ : Aside0 (w12.heap[gb256]? = some (.cells #[.slice A0_0 l0_0.length c0_0, .int .i64 a0_1] 34 (0, 0))) := ⟨h4_⟩
     have n5_ : Aside0 (w12.heap[gb274]? = some (.cells #[.int .i64 0, .int .i64 0, .int .i64 0, .slice none 0 0, .slice none 0 0, .slice none 0 0] 40 (0, 0))) := ⟨h5_⟩
     have n6_ : Aside0 (w.heap.size ≤ gb274) := ⟨h6_⟩
     have n7_ : Aside0 (w.heap.size ≤ gb274) := ⟨h7_⟩
     have n8_ : Aside0 (gb256 ≠ gb274) := ⟨h8_⟩
     have n9_ : Aside0 (gb274 ≠ gb256) := ⟨h9_⟩
     have n10_ : Aside0 (Below w.heap.size w w12) := ⟨h10_⟩
     clear HO_5
     clear BK256
     clear HB
     clear h0_ h1_ h2_ h3_ h4_ h5_ h6_ h7_ h8_ h9_ h10_
     have HO266 := n0_
     have HO269 := n1_
     have HO272 := n2_
     have HO_5 := n3_
     have BK256 := n4_
     have BK274 := n5_
     have GW274 := n6_
     have GE274 := n7_
     have NB256_274 := n8_
     have NB274_256 := n9_
     have HB := n10_
     clear n0_ n1_ n2_ n3_ n4_ n5_ n6_ n7_ n8_ n9_ n10_
     have hHeld : w12.cell? ⟨gb256, 0, none⟩ = some (.slice A0_0 l0_0.length c0_0) ∧ w12.cell? ⟨gb256, 1, none⟩ = some (.int .i64 a0_1) ∧ w12.cell? (ad260.add (x6_1).toNat) = some (.int .i64 (rd l1 x6_1)) := hS_
     obtain ⟨Ao16, co16, eo16⟩ := Kd.R_slice HO266.out
     (first | subst eo16 | (injection eo16 with f1_ f2_ f3_; have f4_ := f1_.symm; have f5_ := f3_.symm; clear f1_ f2_ f3_; subst f4_; subst f5_))
     obtain ⟨Ao18, co18, eo18⟩ := Kd.R_slice HO269.out
     (first | subst eo18 | (injection eo18 with f1_ f2_ f3_; have f4_ := f1_.symm; have f5_ := f3_.symm; clear f1_ f2_ f3_; subst f4_; subst f5_))
     obtain ⟨Ao20, co20, eo20⟩ := Kd.R_slice HO272.out
     (first | subst eo20 | (injection eo20 with f1_ f2_ f3_; have f4_ := f1_.symm; have f5_ := f3_.symm; clear f1_ f2_ f3_; subst f4_; subst f5_))
     refine norm_ (a' := ?_) ?_ ?_
     rotate_left
     ·simp only [putAll, Act.put, List.setIfInBounds_toArray, List.set_cons_zero, List.set_cons_succ]
      rfl
     refine one_ (i := 10) (N := none) (lb 12 2047) rfl rfl (one_of HT_.out (by kernel_rfl)) (by decide) (fun K hK => ?_)
     have hs13 : w12.cell? ⟨gb274, 0, none⟩ = some (.int .i64 0) := (blk_cell BK274.out 0).trans rfl
     have hfs13 := blk_frozen BK274.out 0
     have hns13_0 := NB256_274.out
     have hms13_0 := NB274_256.out
     have hs14 : w12.cell? ⟨gb274, 1, none⟩ = some (.int .i64 0) := (blk_cell BK274.out 1).trans rfl
     have hfs14 := blk_frozen BK274.out 1
     have hns14_0 := NB256_274.out
     have hms14_0 := NB274_256.out
     have hs15 : w12.cell? ⟨gb274, 2, none⟩ = some (.int .i64 0) := (blk_cell BK274.out 2).trans rfl
     have hfs15 := blk_frozen BK274.out 2
     have hns15_0 := NB256_274.out
     have hms15_0 := NB274_256.out
     have hs17 : w12.cell? ⟨gb274, 3, none⟩ = some (.slice none 0 0) := (blk_cell BK274.out 3).trans rfl
     have hfs17 := blk_frozen BK274.out 3
     have hns17_0 := NB256_274.out
     have hms17_0 := NB274_256.out
     have hs19 : w12.cell? ⟨gb274, 4, none⟩ = some (.slice none 0 0) := (blk_cell BK274.out 4).trans rfl
     have hfs19 := blk_frozen BK274.out 4
     have hns19_0 := NB256_274.out
     have hms19_0 := NB274_256.out
     have hs21 : w12.cell? ⟨gb274, 5, none⟩ = some (.slice none 0 0) := (blk_cell BK274.out 5).trans rfl
     have hfs21 := blk_frozen BK274.out 5
     have hns21_0 := NB256_274.out
     have hms21_0 := NB274_256.out
     refine skip_ (w1 := ?_) (by rfl) rfl ?_ ?_
     rotate_left
     ·go_simp
      rfl
     refine hK.out _ _ ⟨((cell_far (p := ⟨gb274, _, none⟩) NB256_274.out _).trans (((cell_far (p := ⟨gb274, _, none⟩) NB256_274.out _).trans (((cell_far (p := ⟨gb274, _, none⟩) NB256_274.out _).trans (((cell_far (p := ⟨gb274, _, none⟩) NB256_274.out _).trans (((cell_far (p := ⟨gb274, _, none⟩) NB256_274.out _).trans (((cell_far (p := ⟨gb274, _, none⟩) NB256_274.out _).trans (hHeld.1)))))))))))), ((cell_far (p := ⟨gb274, _, none⟩) NB256_274.out _).trans (((cell_far (p := ⟨gb274, _, none⟩) NB256_274.out _).trans (((cell_far (p := ⟨gb274, _, none⟩) NB256_274.out _).trans (((cell_far (p := ⟨gb274, _, none⟩) NB256_274.out _).trans (((cell_far (p := ⟨gb274, _, none⟩) NB256_274.out _).trans (((cell_far (p := ⟨gb274, _, none⟩) NB256_274.out _).trans (hHeld.2.1)))))))))))), ((cell_far (p := ⟨gb274, _, none⟩) (by first | exact Nat.ne_of_lt (Nat.lt_of_lt_of_le (by have := World.block_lt_of_cell? _ _ hw260_0; first | rwa [add_block] at this | exact this) GW274.out) | (rw [add_block]; exact Nat.ne_of_lt (Nat.lt_of_lt_of_le (by have := World.block_lt_of_cell? _ _ hw260_0; first | rwa [add_block] at this | exact this) GW274.out)) | (show (Addr.add _ _).block ≠ _; rw [add_block]; exact Nat.ne_of_lt (Nat.lt_of_lt_of_le (by have := World.block_lt_of_cell? _ _ hw260_0; first | rwa [add_block] at this | exact this) GW274.out)) | (dsimp only; exact Nat.ne_of_lt (Nat.lt_of_lt_of_le (by have := World.block_lt_of_cell? _ _ hw260_0; first | rwa [add_block] at this | exact this) GW274.out))) _).trans (((cell_far (p := ⟨gb274, _, none⟩) (by first | exact Nat.ne_of_lt (Nat.lt_of_lt_of_le (by have := World.block_lt_of_cell? _ _ hw260_0; first | rwa [add_block] at this | exact this) GW274.out) | (rw [add_block]; exact Nat.ne_of_lt (Nat.lt_of_lt_of_le (by have := World.block_lt_of_cell? _ _ hw260_0; first | rwa [add_block] at this | exact this) GW274.out)) | (show (Addr.add _ _).block ≠ _; rw [add_block]; exact Nat.ne_of_lt (Nat.lt_of_lt_of_le (by have := World.block_lt_of_cell? _ _ hw260_0; first | rwa [add_block] at this | exact this) GW274.out)) | (dsimp only; exact Nat.ne_of_lt (Nat.lt_of_lt_of_le (by have := World.block_lt_of_cell? _ _ hw260_0; first | rwa [add_block] at this | exact this) GW274.out))) _).trans (((cell_far (p := ⟨gb274, _, none⟩) (by first | exact Nat.ne_of_lt (Nat.lt_of_lt_of_le (by have := World.block_lt_of_cell? _ _ hw260_0; first | rwa [add_block] at this | exact this) GW274.out) | (rw [add_block]; exact Nat.ne_of_lt (Nat.lt_of_lt_of_le (by have := World.block_lt_of_cell? _ _ hw260_0; first | rwa [add_block] at this | exact this) GW274.out)) | (show (Addr.add _ _).block ≠ _; rw [add_block]; exact Nat.ne_of_lt (Nat.lt_of_lt_of_le (by have := World.block_lt_of_cell? _ _ hw260_0; first | rwa [add_block] at this | exact this) GW274.out)) | (dsimp only; exact Nat.ne_of_lt (Nat.lt_of_lt_of_le (by have := World.block_lt_of_cell? _ _ hw260_0; first | rwa [add_block] at this | exact this) GW274.out))) _).trans (((cell_far (p := ⟨gb274, _, none⟩) (by first | exact Nat.ne_of_lt (Nat.lt_of_lt_of_le (by have := World.block_lt_of_cell? _ _ hw260_0; first | rwa [add_block] at this | exact this) GW274.out) | (rw [add_block]; exact Nat.ne_of_lt (Nat.lt_of_lt_of_le (by have := World.block_lt_of_cell? _ _ hw260_0; first | rwa [add_block] at this | exact this) GW274.out)) | (show (Addr.add _ _).block ≠ _; rw [add_block]; exact Nat.ne_of_lt (Nat.lt_of_lt_of_le (by have := World.block_lt_of_cell? _ _ hw260_0; first | rwa [add_block] at this | exact this) GW274.out)) | (dsimp only; exact Nat.ne_of_lt (Nat.lt_of_lt_of_le (by have := World.block_lt_of_cell? _ _ hw260_0; first | rwa [add_block] at this | exact this) GW274.out))) _).trans (((cell_far (p := ⟨gb274, _, none⟩) (by first | exact Nat.ne_of_lt (Nat.lt_of_lt_of_le (by have := World.block_lt_of_cell? _ _ hw260_0; first | rwa [add_block] at this | exact this) GW274.out) | (rw [add_block]; exact Nat.ne_of_lt (Nat.lt_of_lt_of_le (by have := World.block_lt_of_cell? _ _ hw260_0; first | rwa [add_block] at this | exact this) GW274.out)) | (show (Addr.add _ _).block ≠ _; rw [add_block]; exact Nat.ne_of_lt (Nat.lt_of_lt_of_le (by have := World.block_lt_of_cell? _ _ hw260_0; first | rwa [add_block] at this | exact this) GW274.out)) | (dsimp only; exact Nat.ne_of_lt (Nat.lt_of_lt_of_le (by have := World.block_lt_of_cell? _ _ hw260_0; first | rwa [add_block] at this | exact this) GW274.out))) _).trans (((cell_far (p := ⟨gb274, _, none⟩) (by first | exact Nat.ne_of_lt (Nat.lt_of_lt_of_le (by have := World.block_lt_of_cell? _ _ hw260_0; first | rwa [add_block] at this | exact this) GW274.out) | (rw [add_block]; exact Nat.ne_of_lt (Nat.lt_of_lt_of_le (by have := World.block_lt_of_cell? _ _ hw260_0; first | rwa [add_block] at this | exact this) GW274.out)) | (show (Addr.add _ _).block ≠ _; rw [add_block]; exact Nat.ne_of_lt (Nat.lt_of_lt_of_le (by have := World.block_lt_of_cell? _ _ hw260_0; first | rwa [add_block] at this | exact this) GW274.out)) | (dsimp only; exact Nat.ne_of_lt (Nat.lt_of_lt_of_le (by have := World.block_lt_of_cell? _ _ hw260_0; first | rwa [add_block] at this | exact this) GW274.out))) _).trans (hHeld.2.2))))))))))))⟩ (fun hHeld => ?_)
     clear hK K
     refine pu_ 11 8 HT_ ?_
     refine dn_ HT_ ?_
     try go_wp2
     go_loopg [5, 9] k1 (fun kq v5 v9 w' => ∃ (x5_2 : List Int) (x9_2 : Int), v9 = .int .i64 x9_2 ∧ Aside0 (spec_l7Next.l1 kq l1 x5_2 x6_1 t273 x9_2 l0_0 a0_1 t261 t262 t263 t264 t267 t270 = some r) ∧ Aside0 (kq ≤ k1) ∧ Aside0 (Kd.R (Kd.int .i64) 3 w' b0 (fun _ => True) v5 x5_2) ∧ Aside0 (Kd.R (Kd.int .u8) 5 w' w.heap.size (fun _ => True) (.slice Ao16 t264.length co16) t264) ∧ Aside0 (Kd.R k82 82 w' w.heap.size (fun _ => True) (.slice Ao18 t267.length co18) t267) ∧ Aside0 (Kd.R k90 90 w' w.heap.size (fun _ => True) (.slice Ao20 t270.length co20) t270) ∧ Aside0 (w'.heap[gb256]? = some (.cells #[(.slice A0_0 l0_0.length c0_0), .int .i64 a0_1] 34 (0, 0))) ∧ Aside0 (w'.heap[gb274]? = some (.cells #[.int .i64 t261, .int .i64 t262, .int .i64 t263, (.slice Ao16 t264.length co16), (.slice Ao18 t267.length co18), (.slice Ao20 t270.length co20)] 40 (0, 0))) ∧ Aside0 (Below w.heap.size w w'))
     case atStart => exact ⟨(x5_1), (0), oS, H', ⟨Nat.le_refl _⟩, ⟨by (with_reducible repeat (first | apply Kd.R_alloc | apply Kd.R_drewN | apply Kd.R_drew)); exact Kd.R_mono (Kd.R_far (p := ⟨gb274, 5, none⟩) (Kd.R_far (p := ⟨gb274, 4, none⟩) (Kd.R_far (p := ⟨gb274, 3, none⟩) (Kd.R_far (p := ⟨gb274, 2, none⟩) (Kd.R_far (p := ⟨gb274, 1, none⟩) (Kd.R_far (p := ⟨gb274, 0, none⟩) (Kd.R_types HO_5.out BK274.out (by decide)) (fun _ hk => hk.2) (.int .i64 t261)) (fun _ hk => hk.2) (.int .i64 t262)) (fun _ hk => hk.2) (.int .i64 t263)) (fun _ hk => hk.2) (.slice Ao16 t264.length co16)) (fun _ hk => hk.2) (.slice Ao18 t267.length co18)) (fun _ hk => hk.2) (.slice Ao20 t270.length co20)) (fun _ hk => trivial)⟩, ⟨by (with_reducible repeat (first | apply Kd.R_alloc | apply Kd.R_drewN | apply Kd.R_drew)); exact Kd.R_mono (Kd.R_far (p := ⟨gb274, 5, none⟩) (Kd.R_far (p := ⟨gb274, 4, none⟩) (Kd.R_far (p := ⟨gb274, 3, none⟩) (Kd.R_far (p := ⟨gb274, 2, none⟩) (Kd.R_far (p := ⟨gb274, 1, none⟩) (Kd.R_far (p := ⟨gb274, 0, none⟩) (Kd.R_types HO266.out BK274.out (by decide)) (fun _ hk => hk.2) (.int .i64 t261)) (fun _ hk => hk.2) (.int .i64 t262)) (fun _ hk => hk.2) (.int .i64 t263)) (fun _ hk => hk.2) (.slice Ao16 t264.length co16)) (fun _ hk => hk.2) (.slice Ao18 t267.length co18)) (fun _ hk => hk.2) (.slice Ao20 t270.length co20)) (fun _ hk => trivial)⟩, ⟨by (with_reducible repeat (first | apply Kd.R_alloc | apply Kd.R_drewN | apply Kd.R_drew)); exact Kd.R_mono (Kd.R_far (p := ⟨gb274, 5, none⟩) (Kd.R_far (p := ⟨gb274, 4, none⟩) (Kd.R_far (p := ⟨gb274, 3, none⟩) (Kd.R_far (p := ⟨gb274, 2, none⟩) (Kd.R_far (p := ⟨gb274, 1, none⟩) (Kd.R_far (p := ⟨gb274, 0, none⟩) (Kd.R_types HO269.out BK274.out (by decide)) (fun _ hk => hk.2) (.int .i64 t261)) (fun _ hk => hk.2) (.int .i64 t262)) (fun _ hk => hk.2) (.int .i64 t263)) (fun _ hk => hk.2) (.slice Ao16 t264.length co16)) (fun _ hk => hk.2) (.slice Ao18 t267.length co18)) (fun _ hk => hk.2) (.slice Ao20 t270.length co20)) (fun _ hk => trivial)⟩, ⟨by (with_reducible repeat (first | apply Kd.R_alloc | apply Kd.R_drewN | apply Kd.R_drew)); exact Kd.R_mono (Kd.R_far (p := ⟨gb274, 5, none⟩) (Kd.R_far (p := ⟨gb274, 4, none⟩) (Kd.R_far (p := ⟨gb274, 3, none⟩) (Kd.R_far (p := ⟨gb274, 2, none⟩) (Kd.R_far (p := ⟨gb274, 1, none⟩) (Kd.R_far (p := ⟨gb274, 0, none⟩) (Kd.R_types HO272.out BK274.out (by decide)) (fun _ hk => hk.2) (.int .i64 t261)) (fun _ hk => hk.2) (.int .i64 t262)) (fun _ hk => hk.2) (.int .i64 t263)) (fun _ hk => hk.2) (.slice Ao16 t264.length co16)) (fun _ hk => hk.2) (.slice Ao18 t267.length co18)) (fun _ hk => hk.2) (.slice Ao20 t270.length co20)) (fun _ hk => trivial)⟩, ⟨oF BK256⟩, ⟨oP BK274⟩, ⟨by repeat (first | (with_reducible first | exact HB.out | apply below_alloc | apply pw_below_drewN | apply below_drew1 | refine below_set ?_ GE256.out | refine below_set ?_ GE274.out) | exact HB.out)⟩⟩
     case round =>
      clear H'
      try clear c1
      try clear p2
      try clear q2
      try clear hx2
      try clear c5
      try clear c6
      try clear c6b0
      try clear c7
      try clear c7b0
      try clear c8
      try clear hx260_0
      try clear p2
      try clear p260
      try clear q260
      obtain ⟨x5_2, x9_2, rfl, HA, HK2, HO_5, HO_275003, HO_275004, HO_275005, BK256, BK274, HB⟩ := hrel
      cases gk with
      | zero => exact absurd HA.out (by simp [spec_l7Next.l1])
      | succ k2 =>
       have H := HA.out
       clear HA
       simp only [spec_l7Next.l1] at H
       have HC22 := Aside0.mk H
       clear H
       go_upto_region 7 with (fail)
       go_cut [38] (fun v38 wc => ∃ (kq : Nat) (x38_21 : Bool), v38 = .bool x38_21 ∧ Aside0 (spec_l7Next.j2 kq l1 x5_2 x6_1 t273 x9_2 x38_21 l0_0 a0_1 t261 t262 t263 t264 t267 t270 = some r) ∧ Aside0 (kq ≤ k2) ∧ Aside0 (Kd.R (Kd.int .i64) 3 wc b0 (fun _ => True) u5 x5_2) ∧ Aside0 (Kd.R (Kd.int .u8) 5 wc w.heap.size (fun _ => True) (.slice Ao16 t264.length co16) t264) ∧ Aside0 (Kd.R k82 82 wc w.heap.size (fun _ => True) (.slice Ao18 t267.length co18) t267) ∧ Aside0 (Kd.R k90 90 wc w.heap.size (fun _ => True) (.slice Ao20 t270.length co20) t270) ∧ Aside0 (wc.heap[gb256]? = some (.cells #[(.slice A0_0 l0_0.length c0_0), .int .i64 a0_1] 34 (0, 0))) ∧ Aside0 (wc.heap[gb274]? = some (.cells #[.int .i64 t261, .int .i64 t262, .int .i64 t263, (.slice Ao16 t264.length co16), (.slice Ao18 t267.length co18), (.slice Ao20 t270.length co20)] 40 (0, 0))) ∧ Aside0 (Below w.heap.size w wc))
       case first =>
        have H := HC22.out
        clear HC22
        by_cases c23 : x9_2 < (t267.length : Int)
        ·rw [if_pos c23] at H
         have c23b0 : decide (x9_2 < (t267.length : Int)) = true := decide_eq_true c23
         clear c23
         (first | rw [c23b0] | rw [c23b2] | (simp only [i64_w, i32_w]; rw [c23b0]) | skip)
         by_cases c24 : t273 = true
         ·subst c24
          have H1 : (spec_l7Next.j2 k2 l1 x5_2 x6_1 true x9_2 (t262 == 2) l0_0 a0_1 t261 t262 t263 t264 t267 t270) = some r := by rw [if_pos rfl] at H; exact H
          clear H
          have H := H1
          clear H1
          have H' := Aside0.mk H
          clear H
          have hnb25 := NB274_256.out
          have hnc25 := NB256_274.out
          have hcz26_0 : wr.cell? ⟨gb274, 0, none⟩ = some (.int .i64 t261) := (blk_cell BK274.out 0).trans rfl
          have hcz26_1 : wr.cell? ⟨gb274, 1, none⟩ = some (.int .i64 t262) := (blk_cell BK274.out 1).trans rfl
          have hcz26_2 : wr.cell? ⟨gb274, 2, none⟩ = some (.int .i64 t263) := (blk_cell BK274.out 2).trans rfl
          have hcz26_3 : wr.cell? ⟨gb274, 3, none⟩ = some (.slice Ao16 t264.length co16) := (blk_cell BK274.out 3).trans rfl
          have hcz26_4 : wr.cell? ⟨gb274, 4, none⟩ = some (.slice Ao18 t267.length co18) := (blk_cell BK274.out 4).trans rfl
          have hcz26_5 : wr.cell? ⟨gb274, 5, none⟩ = some (.slice Ao20 t270.length co20) := (blk_cell BK274.out 5).trans rfl
          have hfz26_0 := blk_frozen BK274.out 0
          have hfz26_1 := blk_frozen BK274.out 1
          have hfz26_2 := blk_frozen BK274.out 2
          have hfz26_3 := blk_frozen BK274.out 3
          have hfz26_4 := blk_frozen BK274.out 4
          have hfz26_5 := blk_frozen BK274.out 5
          go_wp2
          go_meet
          case rel => exact ⟨_, ((t262 == 2)), oS, H', ⟨by have := HK1.out; have := HK2.out; first | omega | exact Nat.le_refl _⟩, ⟨by (with_reducible repeat (first | apply Kd.R_alloc | apply Kd.R_drewN | apply Kd.R_drew)); exact HO_5.out⟩, ⟨by (with_reducible repeat (first | apply Kd.R_alloc | apply Kd.R_drewN | apply Kd.R_drew)); exact HO_275003.out⟩, ⟨by (with_reducible repeat (first | apply Kd.R_alloc | apply Kd.R_drewN | apply Kd.R_drew)); exact HO_275004.out⟩, ⟨by (with_reducible repeat (first | apply Kd.R_alloc | apply Kd.R_drewN | apply Kd.R_drew)); exact HO_275005.out⟩, ⟨oF BK256⟩, ⟨oF BK274⟩, ⟨by repeat (first | (with_reducible first | exact HB.out | apply below_alloc | apply pw_below_drewN | apply below_drew1 | refine below_set ?_ GE256.out | refine below_set ?_ GE274.out) | exact HB.out)⟩⟩
         ·replace c24 := Bool.eq_false_iff.mpr c24
          subst c24
          have H1 : (spec_l7Next.j2 k2 l1 x5_2 x6_1 false x9_2 false l0_0 a0_1 t261 t262 t263 t264 t267 t270) = some r := by rw [if_neg (show ¬ (false = true) by decide)] at H; exact H
          clear H
          have H := H1
          clear H1
          have H' := Aside0.mk H
          clear H
          have hnb27 := NB274_256.out
          have hnc27 := NB256_274.out
          have hcz28_0 : wr.cell? ⟨gb274, 0, none⟩ = some (.int .i64 t261) := (blk_cell BK274.out 0).trans rfl
          have hcz28_1 : wr.cell? ⟨gb274, 1, none⟩ = some (.int .i64 t262) := (blk_cell BK274.out 1).trans rfl
          have hcz28_2 : wr.cell? ⟨gb274, 2, none⟩ = some (.int .i64 t263) := (blk_cell BK274.out 2).trans rfl
          have hcz28_3 : wr.cell? ⟨gb274, 3, none⟩ = some (.slice Ao16 t264.length co16) := (blk_cell BK274.out 3).trans rfl
          have hcz28_4 : wr.cell? ⟨gb274, 4, none⟩ = some (.slice Ao18 t267.length co18) := (blk_cell BK274.out 4).trans rfl
          have hcz28_5 : wr.cell? ⟨gb274, 5, none⟩ = some (.slice Ao20 t270.length co20) := (blk_cell BK274.out 5).trans rfl
          have hfz28_0 := blk_frozen BK274.out 0
          have hfz28_1 := blk_frozen BK274.out 1
          have hfz28_2 := blk_frozen BK274.out 2
          have hfz28_3 := blk_frozen BK274.out 3
          have hfz28_4 := blk_frozen BK274.out 4
          have hfz28_5 := blk_frozen BK274.out 5
          go_wp2
          go_meet
          case rel => exact ⟨_, (false), oS, H', ⟨by have := HK1.out; have := HK2.out; first | omega | exact Nat.le_refl _⟩, ⟨by (with_reducible repeat (first | apply Kd.R_alloc | apply Kd.R_drewN | apply Kd.R_drew)); exact HO_5.out⟩, ⟨by (with_reducible repeat (first | apply Kd.R_alloc | apply Kd.R_drewN | apply Kd.R_drew)); exact HO_275003.out⟩, ⟨by (with_reducible repeat (first | apply Kd.R_alloc | apply Kd.R_drewN | apply Kd.R_drew)); exact HO_275004.out⟩, ⟨by (with_reducible repeat (first | apply Kd.R_alloc | apply Kd.R_drewN | apply Kd.R_drew)); exact HO_275005.out⟩, ⟨oF BK256⟩, ⟨oF BK274⟩, ⟨by repeat (first | (with_reducible first | exact HB.out | apply below_alloc | apply pw_below_drewN | apply below_drew1 | refine below_set ?_ GE256.out | refine below_set ?_ GE274.out) | exact HB.out)⟩⟩
        ·rw [if_neg c23] at H
         have c23b0 : decide (x9_2 < (t267.length : Int)) = false := decide_eq_false c23
         clear c23
         (first | rw [c23b0] | rw [c23b2] | (simp only [i64_w, i32_w]; rw [c23b0]) | skip)
         have H' := Aside0.mk H
         clear H
         have hnb29 := NB274_256.out
         have hnc29 := NB256_274.out
         have hcz30_0 : wr.cell? ⟨gb274, 0, none⟩ = some (.int .i64 t261) := (blk_cell BK274.out 0).trans rfl
         have hcz30_1 : wr.cell? ⟨gb274, 1, none⟩ = some (.int .i64 t262) := (blk_cell BK274.out 1).trans rfl
         have hcz30_2 : wr.cell? ⟨gb274, 2, none⟩ = some (.int .i64 t263) := (blk_cell BK274.out 2).trans rfl
         have hcz30_3 : wr.cell? ⟨gb274, 3, none⟩ = some (.slice Ao16 t264.length co16) := (blk_cell BK274.out 3).trans rfl
         have hcz30_4 : wr.cell? ⟨gb274, 4, none⟩ = some (.slice Ao18 t267.length co18) := (blk_cell BK274.out 4).trans rfl
         have hcz30_5 : wr.cell? ⟨gb274, 5, none⟩ = some (.slice Ao20 t270.length co20) := (blk_cell BK274.out 5).trans rfl
         have hfz30_0 := blk_frozen BK274.out 0
         have hfz30_1 := blk_frozen BK274.out 1
         have hfz30_2 := blk_frozen BK274.out 2
         have hfz30_3 := blk_frozen BK274.out 3
         have hfz30_4 := blk_frozen BK274.out 4
         have hfz30_5 := blk_frozen BK274.out 5
         go_wp2
         go_meet
         case rel => exact ⟨_, (false), oS, H', ⟨by have := HK1.out; have := HK2.out; first | omega | exact Nat.le_refl _⟩, ⟨by (with_reducible repeat (first | apply Kd.R_alloc | apply Kd.R_drewN | apply Kd.R_drew)); exact HO_5.out⟩, ⟨by (with_reducible repeat (first | apply Kd.R_alloc | apply Kd.R_drewN | apply Kd.R_drew)); exact HO_275003.out⟩, ⟨by (with_reducible repeat (first | apply Kd.R_alloc | apply Kd.R_drewN | apply Kd.R_drew)); exact HO_275004.out⟩, ⟨by (with_reducible repeat (first | apply Kd.R_alloc | apply Kd.R_drewN | apply Kd.R_drew)); exact HO_275005.out⟩, ⟨oF BK256⟩, ⟨oF BK274⟩, ⟨by repeat (first | (with_reducible first | exact HB.out | apply below_alloc | apply pw_below_drewN | apply below_drew1 | refine below_set ?_ GE256.out | refine below_set ?_ GE274.out) | exact HB.out)⟩⟩
       case rest =>
        clear HC22
        try clear c1
        try clear c2
        try clear p2
        try clear q2
        try clear hx2
        try clear c5
        try clear c6
        try clear c6b0
        try clear c7
        try clear c7b0
        try clear c8
        try clear c23
        try clear c23b0
        try clear c23b2
        try clear c24
        try clear c25
        try clear p26
        try clear q26
        try clear hx26
        try clear c27
        try clear c29
        try clear hcz26_0
        try clear hcz26_1
        try clear hcz26_2
        try clear hcz26_3
        try clear hcz26_4
        try clear hcz26_5
        try clear hcz28_0
        try clear hcz28_1
        try clear hcz28_2
        try clear hcz28_3
        try clear hcz28_4
        try clear hcz28_5
        try clear hcz30_0
        try clear hcz30_1
        try clear hcz30_2
        try clear hcz30_3
        try clear hcz30_4
        try clear hcz30_5
        try clear hfz26_0
        try clear hfz26_1
        try clear hfz26_2
        try clear hfz26_3
        try clear hfz26_4
        try clear hfz26_5
        try clear hfz28_0
        try clear hfz28_1
        try clear hfz28_2
        try clear hfz28_3
        try clear hfz28_4
        try clear hfz28_5
        try clear hfz30_0
        try clear hfz30_1
        try clear hfz30_2
        try clear hfz30_3
        try clear hfz30_4
        try clear hfz30_5
        try clear hx260_0
        try clear p2
        try clear p260
        try clear q2
        try clear q260
        obtain ⟨kq, x38_21, rfl, HA, HJ21, HO_5, HO_275003, HO_275004, HO_275005, BK256, BK274, HB⟩ := hcut
        cases kq with
        | zero => exact absurd HA.out (by simp [spec_l7Next.j2])
        | succ kj21 =>
         have H := HA.out
         clear HA
         simp only [spec_l7Next.j2] at H
         by_cases c31 : x38_21 = true
         ·subst c31
          have H1 : (if 0 ≤ x9_2 then (if x9_2 < (t267.length : Int) then ((spec_l4At.f kj21 l0_0 a0_1 ((rd_T82 t267 x9_2).f1)).bind fun t276 => (if t276 ≥ 0 then ((spec_l7Put.f kj21 x5_2 ((rd_T82 t267 x9_2).f1)).bind fun t278 => (spec_l7Next.l1 kj21 l1 t278 x6_1 t273 (wrap64 (x9_2 + 1)) l0_0 a0_1 t261 t262 t263 t264 t267 t270)) else (spec_l7Next.l1 kj21 l1 x5_2 x6_1 t273 (wrap64 (x9_2 + 1)) l0_0 a0_1 t261 t262 t263 t264 t267 t270))) else (none)) else (none)) = some r := by rw [if_pos rfl] at H; exact H
          clear H
          have H := H1
          clear H1
          by_cases c32 : 0 ≤ x9_2
          ·rw [if_pos c32] at H
           have c32b0 : decide (0 ≤ x9_2) = true := decide_eq_true c32
           clear c32
           by_cases c33 : x9_2 < (t267.length : Int)
           ·rw [if_pos c33] at H
            have c33b0 : decide (x9_2 < (t267.length : Int)) = true := decide_eq_true c33
            clear c33
            replace H := Option.bind_eq_some_iff.mp H
            obtain ⟨t276, A340, H⟩ := H
            replace H : (if t276 ≥ 0 then ((spec_l7Put.f kj21 x5_2 ((rd_T82 t267 x9_2).f1)).bind fun t278 => (spec_l7Next.l1 kj21 l1 t278 x6_1 t273 (wrap64 (x9_2 + 1)) l0_0 a0_1 t261 t262 t263 t264 t267 t270)) else (spec_l7Next.l1 kj21 l1 x5_2 x6_1 t273 (wrap64 (x9_2 + 1)) l0_0 a0_1 t261 t262 t263 t264 t267 t270)) = some r := H
            have A34 := Aside0.mk A340
            clear A340
            by_cases c35 : t276 ≥ 0
            ·rw [if_pos c35] at H
             have c35b0 : decide (0 ≤ t276) = true := decide_eq_true c35
             clear c35
             replace H := Option.bind_eq_some_iff.mp H
             obtain ⟨t278, A360, H⟩ := H
             replace H : (spec_l7Next.l1 kj21 l1 t278 x6_1 t273 (wrap64 (x9_2 + 1)) l0_0 a0_1 t261 t262 t263 t264 t267 t270) = some r := H
             have A36 := Aside0.mk A360
             clear A360
             have H' := Aside0.mk H
             clear H
             try go_wp2
             have n0_ := Aside0.mk (Kd.R_drew HO_5.out)
             have n1_ := Aside0.mk (Kd.R_drew HO_275003.out)
             have n2_ := Aside0.mk (Kd.R_drew HO_275004.out)
             have n3_ := Aside0.mk (Kd.R_drew HO_275005.out)
             have n4_ := Aside0.mk (blk_drew BK256.out)
             have n5_ := Aside0.mk (blk_drew BK274.out)
             have n6_ := Aside0.mk (below_drew1 HB.out)
             clear HO_5
             clear HO_275003
             clear HO_275004
             clear HO_275005
             clear BK256
             clear BK274
             clear HB
             have HO_5 := n0_
             have HO_275003 := n1_
             have HO_275004 := n2_
             have HO_275005 := n3_
             have BK256 := n4_
             have BK274 := n5_
             have HB := n6_
             clear n0_ n1_ n2_ n3_ n4_ n5_ n6_
             have p275 : 0 ≤ (x9_2 : Int) := oa
             have q275 : x9_2 < (t267.length : Int) := oa
             obtain ⟨ad275, e275, hx275_0, hx275_1⟩ := at_T82 (Kd.R_reads' HO_275004.out).2.2 x9_2 p275 q275
             cases e275
             replace p275 := eq_true p275
             replace q275 := eq_true q275
             refine st_ 9 (fun w' => w'.cell? ⟨gb256, 0, none⟩ = some (.slice A0_0 l0_0.length c0_0) ∧ w'.cell? ⟨gb256, 1, none⟩ = some (.int .i64 a0_1) ∧ w'.cell? ⟨gb274, 0, none⟩ = some (.int .i64 t261) ∧ w'.cell? ⟨gb274, 1, none⟩ = some (.int .i64 t262) ∧ w'.cell? ⟨gb274, 2, none⟩ = some (.int .i64 t263) ∧ w'.cell? ⟨gb274, 3, none⟩ = some (.slice Ao16 t264.length co16) ∧ w'.cell? ⟨gb274, 4, none⟩ = some (.slice (some ad275) t267.length co18) ∧ w'.cell? ⟨gb274, 5, none⟩ = some (.slice Ao20 t270.length co20) ∧ w'.cell? (ad275.add ((x9_2).toNat * 2)) = some (.string ((rd_T82 t267 x9_2).f0)) ∧ w'.cell? ⟨(ad275.add ((x9_2).toNat * 2)).block, (ad275.add ((x9_2).toNat * 2)).off + 1, none⟩ = some (.int .i64 ((rd_T82 t267 x9_2).f1))) spec_l7Next.tab9 spec_l7Next.bits9 ⟨(blk_cell BK256.out 0).trans rfl, (blk_cell BK256.out 1).trans rfl, (blk_cell BK274.out 0).trans rfl, (blk_cell BK274.out 1).trans rfl, (blk_cell BK274.out 2).trans rfl, (blk_cell BK274.out 3).trans rfl, (blk_cell BK274.out 4).trans rfl, (blk_cell BK274.out 5).trans rfl, hx275_0, hx275_1⟩ (fun hHeld HT_ HW_ => ?_)
             generalize wc.drew = w37 at HO_5 HO_275003 HO_275004 HO_275005 BK256 BK274 HB hx275_0 hx275_1 hHeld ⊢
             refine pu_ 1 42 HT_ ?_
             refine pu_ 3 44 HT_ ?_
             refine ta_ 0 41 HT_ HW_ hHeld ?_
             refine ta_ 2 43 HT_ HW_ hHeld ?_
             refine pu_ 4 45 HT_ ?_
             refine pu_ 5 46 HT_ ?_
             refine ta_ 6 47 HT_ HW_ hHeld ?_
             refine on_ 7 48 HT_ (fun K hK => ?_)
             refine goes_ Try.func36 (by kernel_rfl) rfl #[.agg #[.slice A0_0 l0_0.length c0_0, .int .i64 a0_1], .int .i64 ((rd_T82 t267 x9_2).f1)] (by rfl) rfl rfl oL ?_
             with_reducible refine (spec_l4At.calls kj21 _ _ l0_0 a0_1 ((rd_T82 t267 x9_2).f1) t276 _ ?side1 ?side2 A34.out).mono ?_
             (case side1 => repeat (first | exact (Kd.C_below HR0_0.out HB.out) | (with_reducible refine Kd.C_alloc ?_ _) | (with_reducible refine Kd.C_drewN ?_ _) | (with_reducible refine Kd.C_drew ?_)))
             (case side2 => exact HC0_0.out)
             rintro e w38 ⟨rfl, hb⟩
             have HS8_ := (hb.cell (World.block_lt_of_cell? _ _ (hHeld.2.2.2.2.2.2.2.2.1))).trans (hHeld.2.2.2.2.2.2.2.2.1)
             have HS9_ := (hb.cell (World.block_lt_of_cell? _ _ (hHeld.2.2.2.2.2.2.2.2.2))).trans (hHeld.2.2.2.2.2.2.2.2.2)
             refine ⟨_, rfl, ?_⟩
             have n0_ := Aside0.mk (Kd.R_below (by (with_reducible repeat (first | apply Kd.R_alloc | apply Kd.R_drewN | apply Kd.R_drew)); exact HO_5.out) hb)
             have n1_ := Aside0.mk (Kd.R_below (by (with_reducible repeat (first | apply Kd.R_alloc | apply Kd.R_drewN | apply Kd.R_drew)); exact HO_275003.out) hb)
             have n2_ := Aside0.mk (Kd.R_below (by (with_reducible repeat (first | apply Kd.R_alloc | apply Kd.R_drewN | apply Kd.R_drew)); exact HO_275004.out) hb)
             have n3_ := Aside0.mk (Kd.R_below (by (with_reducible repeat (first | apply Kd.R_alloc | apply Kd.R_drewN | apply Kd.R_drew)); exact HO_275005.out) hb)
             have n4_ := kb_ BK256 hb
             have n5_ := kb_ BK274 hb
             have n6_ := Aside0.mk (below_step (by repeat (first | (with_reducible first | exact HB.out | apply below_alloc | apply pw_below_drewN | apply below_drew1 | refine below_set ?_ GE256.out | refine below_set ?_ GE274.out) | exact HB.out)) hb)
             clear HO_5
             clear HO_275003
             clear HO_275004
             clear HO_275005
             clear BK256
             clear BK274
             clear HB
             have HO_5 := n0_
             have HO_275003 := n1_
             have HO_275004 := n2_
             have HO_275005 := n3_
             have BK256 := n4_
             have BK274 := n5_
             have HB := n6_
             clear n0_ n1_ n2_ n3_ n4_ n5_ n6_
             (try clear hb)
             (try clear hb2)
             (try clear hk)
             (try clear hi)
             refine hk_ hK 48 ⟨(blk_cell BK256.out 0).trans rfl, (blk_cell BK256.out 1).trans rfl, (blk_cell BK274.out 0).trans rfl, (blk_cell BK274.out 1).trans rfl, (blk_cell BK274.out 2).trans rfl, (blk_cell BK274.out 3).trans rfl, (blk_cell BK274.out 4).trans rfl, (blk_cell BK274.out 5).trans rfl, HS8_, HS9_⟩ (fun hHeld => ?_)
             clear hK K
             refine pu_ 8 49 HT_ ?_
             refine dn_ HT_ ?_
             have hnb39 := NB274_256.out
             have hnc39 := NB256_274.out
             have hcz40_0 : w38.cell? ⟨gb274, 0, none⟩ = some (.int .i64 t261) := (blk_cell BK274.out 0).trans rfl
             have hcz40_1 : w38.cell? ⟨gb274, 1, none⟩ = some (.int .i64 t262) := (blk_cell BK274.out 1).trans rfl
             have hcz40_2 : w38.cell? ⟨gb274, 2, none⟩ = some (.int .i64 t263) := (blk_cell BK274.out 2).trans rfl
             have hcz40_3 : w38.cell? ⟨gb274, 3, none⟩ = some (.slice Ao16 t264.length co16) := (blk_cell BK274.out 3).trans rfl
             have hcz40_4 : w38.cell? ⟨gb274, 4, none⟩ = some (.slice (some ad275) t267.length co18) := (blk_cell BK274.out 4).trans rfl
             have hcz40_5 : w38.cell? ⟨gb274, 5, none⟩ = some (.slice Ao20 t270.length co20) := (blk_cell BK274.out 5).trans rfl
             have hfz40_0 := blk_frozen BK274.out 0
             have hfz40_1 := blk_frozen BK274.out 1
             have hfz40_2 := blk_frozen BK274.out 2
             have hfz40_3 := blk_frozen BK274.out 3
             have hfz40_4 := blk_frozen BK274.out 4
             have hfz40_5 := blk_frozen BK274.out 5
             have p277 : 0 ≤ (x9_2 : Int) := oa
             have q277 : x9_2 < (t267.length : Int) := oa
             obtain ⟨ad277, e277, hx277_0, hx277_1⟩ := at_T82 (Kd.R_reads' HO_275004.out).2.2 x9_2 p277 q277
             obtain rfl : ad275 = ad277 := (by injection e277)
             replace p277 := eq_true p277
             replace q277 := eq_true q277
             obtain ⟨Ao41, co41, eo41⟩ := Kd.R_slice HO_5.out
             subst eo41
             try go_wp2_with (first | ((with_reducible refine gate_callee (f := 90) rfl ?_); refine goesL_ (some 57) rfl rfl Try.func90 (by kernel_rfl) rfl #[.slice Ao41 x5_2.length co41, .int .i64 ((rd_T82 t267 x9_2).f1)] rfl oL ?_; (with_reducible refine (spec_l7Put.calls kj21 _ _ x5_2 ((rd_T82 t267 x9_2).f1) t278 b0 _ ?side1 ?side2 A36.out).mono ?_); (case side1 => exact Nat.le_trans HB0.out (below_size oB)); (case side2 => exact (by (with_reducible repeat (first | apply Kd.R_alloc | apply Kd.R_drewN | apply Kd.R_drew)); exact HO_5.out)); rintro e w42 ⟨v279, rfl, ho0, hb⟩; refine ⟨_, rfl, ?_⟩; have n0_ := Aside0.mk (Kd.R_below (by (with_reducible repeat (first | apply Kd.R_alloc | apply Kd.R_drewN | apply Kd.R_drew)); exact HO_5.out) hb); have n1_ := Aside0.mk (Kd.R_below (by (with_reducible repeat (first | apply Kd.R_alloc | apply Kd.R_drewN | apply Kd.R_drew)); exact HO_275003.out) hb); have n2_ := Aside0.mk (Kd.R_below (by (with_reducible repeat (first | apply Kd.R_alloc | apply Kd.R_drewN | apply Kd.R_drew)); exact HO_275004.out) hb); have n3_ := Aside0.mk (Kd.R_below (by (with_reducible repeat (first | apply Kd.R_alloc | apply Kd.R_drewN | apply Kd.R_drew)); exact HO_275005.out) hb); have n4_ := Aside0.mk ho0; have n5_ := kb_ BK256 hb; have n6_ := kb_ BK274 hb; have n7_ := Aside0.mk (below_step (by repeat (first | (with_reducible first | exact HB.out | apply below_alloc | apply pw_below_drewN | apply below_drew1 | refine below_set ?_ GE256.out | refine below_set ?_ GE274.out) | exact HB.out)) hb); clear HO_5; clear HO_275003; clear HO_275004; clear HO_275005; clear BK256; clear BK274; clear HB; have HO_5 := n0_; have HO_275003 := n1_; have HO_275004 := n2_; have HO_275005 := n3_; have HO280 := n4_; have BK256 := n5_; have BK274 := n6_; have HB := n7_; clear n0_ n1_ n2_ n3_ n4_ n5_ n6_ n7_; (try clear hb); (try clear hb2); (try clear hk); (try clear hi); (try clear ho0)))
             go_roundg kj21
             case measure => have := HK1.out; have := HK2.out; have := HJ21.out; omega
             case rel => exact ⟨(t278), (wrap64 (x9_2 + 1)), oS, H', ⟨by have := HK1.out; have := HK2.out; have := HJ21.out; omega⟩, ⟨by (with_reducible repeat (first | apply Kd.R_alloc | apply Kd.R_drewN | apply Kd.R_drew)); exact Kd.R_mono HO280.out (fun _ hk => trivial)⟩, ⟨by (with_reducible repeat (first | apply Kd.R_alloc | apply Kd.R_drewN | apply Kd.R_drew)); exact HO_275003.out⟩, ⟨by (with_reducible repeat (first | apply Kd.R_alloc | apply Kd.R_drewN | apply Kd.R_drew)); exact HO_275004.out⟩, ⟨by (with_reducible repeat (first | apply Kd.R_alloc | apply Kd.R_drewN | apply Kd.R_drew)); exact HO_275005.out⟩, ⟨oF BK256⟩, ⟨oF BK274⟩, ⟨by repeat (first | (with_reducible first | exact HB.out | apply below_alloc | apply pw_below_drewN | apply below_drew1 | refine below_set ?_ GE256.out | refine below_set ?_ GE274.out) | exact HB.out)⟩⟩
            ·rw [if_neg c35] at H
             have c35b0 : decide (0 ≤ t276) = false := decide_eq_false c35
             clear c35
             have H' := Aside0.mk H
             clear H
             try go_wp2
             have n0_ := Aside0.mk (Kd.R_drew HO_5.out)
             have n1_ := Aside0.mk (Kd.R_drew HO_275003.out)
             have n2_ := Aside0.mk (Kd.R_drew HO_275004.out)
             have n3_ := Aside0.mk (Kd.R_drew HO_275005.out)
             have n4_ := Aside0.mk (blk_drew BK256.out)
             have n5_ := Aside0.mk (blk_drew BK274.out)
             have n6_ := Aside0.mk (below_drew1 HB.out)
             clear HO_5
             clear HO_275003
             clear HO_275004
             clear HO_275005
             clear BK256
             clear BK274
             clear HB
             have HO_5 := n0_
             have HO_275003 := n1_
             have HO_275004 := n2_
             have HO_275005 := n3_
             have BK256 := n4_
             have BK274 := n5_
             have HB := n6_
             clear n0_ n1_ n2_ n3_ n4_ n5_ n6_
             have p275 : 0 ≤ (x9_2 : Int) := oa
             have q275 : x9_2 < (t267.length : Int) := oa
             obtain ⟨ad275, e275, hx275_0, hx275_1⟩ := at_T82 (Kd.R_reads' HO_275004.out).2.2 x9_2 p275 q275
             cases e275
             replace p275 := eq_true p275
             replace q275 := eq_true q275
             refine st_ 9 (fun w' => w'.cell? ⟨gb256, 0, none⟩ = some (.slice A0_0 l0_0.length c0_0) ∧ w'.cell? ⟨gb256, 1, none⟩ = some (.int .i64 a0_1) ∧ w'.cell? ⟨gb274, 0, none⟩ = some (.int .i64 t261) ∧ w'.cell? ⟨gb274, 1, none⟩ = some (.int .i64 t262) ∧ w'.cell? ⟨gb274, 2, none⟩ = some (.int .i64 t263) ∧ w'.cell? ⟨gb274, 3, none⟩ = some (.slice Ao16 t264.length co16) ∧ w'.cell? ⟨gb274, 4, none⟩ = some (.slice (some ad275) t267.length co18) ∧ w'.cell? ⟨gb274, 5, none⟩ = some (.slice Ao20 t270.length co20) ∧ w'.cell? (ad275.add ((x9_2).toNat * 2)) = some (.string ((rd_T82 t267 x9_2).f0)) ∧ w'.cell? ⟨(ad275.add ((x9_2).toNat * 2)).block, (ad275.add ((x9_2).toNat * 2)).off + 1, none⟩ = some (.int .i64 ((rd_T82 t267 x9_2).f1))) spec_l7Next.tab9 spec_l7Next.bits9 ⟨(blk_cell BK256.out 0).trans rfl, (blk_cell BK256.out 1).trans rfl, (blk_cell BK274.out 0).trans rfl, (blk_cell BK274.out 1).trans rfl, (blk_cell BK274.out 2).trans rfl, (blk_cell BK274.out 3).trans rfl, (blk_cell BK274.out 4).trans rfl, (blk_cell BK274.out 5).trans rfl, hx275_0, hx275_1⟩ (fun hHeld HT_ HW_ => ?_)
             generalize wc.drew = w43 at HO_5 HO_275003 HO_275004 HO_275005 BK256 BK274 HB hx275_0 hx275_1 hHeld ⊢
             refine pu_ 1 42 HT_ ?_
             refine pu_ 3 44 HT_ ?_
             refine ta_ 0 41 HT_ HW_ hHeld ?_
             refine ta_ 2 43 HT_ HW_ hHeld ?_
             refine pu_ 4 45 HT_ ?_
             refine pu_ 5 46 HT_ ?_
             refine ta_ 6 47 HT_ HW_ hHeld ?_
             refine on_ 7 48 HT_ (fun K hK => ?_)
             refine goes_ Try.func36 (by kernel_rfl) rfl #[.agg #[.slice A0_0 l0_0.length c0_0, .int .i64 a0_1], .int .i64 ((rd_T82 t267 x9_2).f1)] (by rfl) rfl rfl oL ?_
             with_reducible refine (spec_l4At.calls kj21 _ _ l0_0 a0_1 ((rd_T82 t267 x9_2).f1) t276 _ ?side1 ?side2 A34.out).mono ?_
             (case side1 => repeat (first | exact (Kd.C_below HR0_0.out HB.out) | (with_reducible refine Kd.C_alloc ?_ _) | (with_reducible refine Kd.C_drewN ?_ _) | (with_reducible refine Kd.C_drew ?_)))
             (case side2 => exact HC0_0.out)
             rintro e w44 ⟨rfl, hb⟩
             have HS8_ := (hb.cell (World.block_lt_of_cell? _ _ (hHeld.2.2.2.2.2.2.2.2.1))).trans (hHeld.2.2.2.2.2.2.2.2.1)
             have HS9_ := (hb.cell (World.block_lt_of_cell? _ _ (hHeld.2.2.2.2.2.2.2.2.2))).trans (hHeld.2.2.2.2.2.2.2.2.2)
             refine ⟨_, rfl, ?_⟩
             have n0_ := Aside0.mk (Kd.R_below (by (with_reducible repeat (first | apply Kd.R_alloc | apply Kd.R_drewN | apply Kd.R_drew)); exact HO_5.out) hb)
             have n1_ := Aside0.mk (Kd.R_below (by (with_reducible repeat (first | apply Kd.R_alloc | apply Kd.R_drewN | apply Kd.R_drew)); exact HO_275003.out) hb)
             have n2_ := Aside0.mk (Kd.R_below (by (with_reducible repeat (first | apply Kd.R_alloc | apply Kd.R_drewN | apply Kd.R_drew)); exact HO_275004.out) hb)
             have n3_ := Aside0.mk (Kd.R_below (by (with_reducible repeat (first | apply Kd.R_alloc | apply Kd.R_drewN | apply Kd.R_drew)); exact HO_275005.out) hb)
             have n4_ := kb_ BK256 hb
             have n5_ := kb_ BK274 hb
             have n6_ := Aside0.mk (below_step (by repeat (first | (with_reducible first | exact HB.out | apply below_alloc | apply pw_below_drewN | apply below_drew1 | refine below_set ?_ GE256.out | refine below_set ?_ GE274.out) | exact HB.out)) hb)
             clear HO_5
             clear HO_275003
             clear HO_275004
             clear HO_275005
             clear BK256
             clear BK274
             clear HB
             have HO_5 := n0_
             have HO_275003 := n1_
             have HO_275004 := n2_
             have HO_275005 := n3_
             have BK256 := n4_
             have BK274 := n5_
             have HB := n6_
             clear n0_ n1_ n2_ n3_ n4_ n5_ n6_
             (try clear hb)
             (try clear hb2)
             (try clear hk)
             (try clear hi)
             refine hk_ hK 48 ⟨(blk_cell BK256.out 0).trans rfl, (blk_cell BK256.out 1).trans rfl, (blk_cell BK274.out 0).trans rfl, (blk_cell BK274.out 1).trans rfl, (blk_cell BK274.out 2).trans rfl, (blk_cell BK274.out 3).trans rfl, (blk_cell BK274.out 4).trans rfl, (blk_cell BK274.out 5).trans rfl, HS8_, HS9_⟩ (fun hHeld => ?_)
             clear hK K
             refine pu_ 8 49 HT_ ?_
             refine dn_ HT_ ?_
             try go_wp2
             go_roundg kj21
             case measure => have := HK1.out; have := HK2.out; have := HJ21.out; omega
             case rel => exact ⟨(x5_2), (wrap64 (x9_2 + 1)), oS, H', ⟨by have := HK1.out; have := HK2.out; have := HJ21.out; omega⟩, ⟨by (with_reducible repeat (first | apply Kd.R_alloc | apply Kd.R_drewN | apply Kd.R_drew)); exact HO_5.out⟩, ⟨by (with_reducible repeat (first | apply Kd.R_alloc | apply Kd.R_drewN | apply Kd.R_drew)); exact HO_275003.out⟩, ⟨by (with_reducible repeat (first | apply Kd.R_alloc | apply Kd.R_drewN | apply Kd.R_drew)); exact HO_275004.out⟩, ⟨by (with_reducible repeat (first | apply Kd.R_alloc | apply Kd.R_drewN | apply Kd.R_drew)); exact HO_275005.out⟩, ⟨oF BK256⟩, ⟨oF BK274⟩, ⟨by repeat (first | (with_reducible first | exact HB.out | apply below_alloc | apply pw_below_drewN | apply below_drew1 | refine below_set ?_ GE256.out | refine below_set ?_ GE274.out) | exact HB.out)⟩⟩
           ·rw [if_neg c33] at H
            exact absurd H (by simp)
          ·rw [if_neg c32] at H
           exact absurd H (by simp)
         ·replace c31 := Bool.eq_false_iff.mpr c31
          subst c31
          have H1 : (spec_l7Next.l0 kj21 l1 x5_2 (wrap64 (x6_1 + 1)) l0_0 a0_1) = some r := by rw [if_neg (show ¬ (false = true) by decide)] at H; exact H
          clear H
          have H := H1
          clear H1
          have H' := Aside0.mk H
          clear H
          go_wp2
          go_roundg kj21
          case measure => have := HK1.out; have := HK2.out; have := HJ21.out; omega
          case rel => exact ⟨(x5_2), (wrap64 (x6_1 + 1)), oS, H', ⟨by have := HK1.out; have := HK2.out; have := HJ21.out; omega⟩, ⟨by (with_reducible repeat (first | apply Kd.R_alloc | apply Kd.R_drewN | apply Kd.R_drew)); exact HO_5.out⟩, ⟨oF BK256⟩, ⟨by repeat (first | (with_reducible first | exact HB.out | apply below_alloc | apply pw_below_drewN | apply below_drew1 | refine below_set ?_ GE256.out | refine below_set ?_ GE274.out) | exact HB.out)⟩⟩
    ·rw [if_neg c7] at H
     exact absurd H (by simp)
   ·rw [if_neg c6] at H
    have c6b0 : decide (x6_1 < (l1.length : Int)) = false := decide_eq_false c6
    clear c6
    obtain rfl := Option.some.inj H
    go_wp2
    go_ret
    exact ⟨_, oE, by (with_reducible repeat (first | apply Kd.R_alloc | apply Kd.R_drewN | apply Kd.R_drew)); exact HO_5.out, by repeat (first | (with_reducible first | exact HB.out | apply below_alloc | apply pw_below_drewN | apply below_drew1 | refine below_set ?_ GE256.out) | exact HB.out)⟩

/-! ### spec_Reached: function 18 -/
def spec_Reached.l0 : Nat → List Int → Int → List (S40) → Int → Option (List Int)
 | 0, _, _, _, _ => none
 | k + 1, x3, x4, x282000, x282001 => if x4 < (x282000.length : Int) then ((spec_l7Next.f k x282000 x282001 x3).bind fun t289 => (spec_Reached.l0 k t289 (wrap64 (x4 + 1)) x282000 x282001)) else (some x3)
def spec_Reached.f (k : Nat) (l0_0 : List (S40)) (a0_1 : Int) : Option (List Int) := (some (([] : List Int) : List Int)).bind fun y282 => ((spec_l4At.f k l0_0 a0_1 1).bind fun t285 => (if t285 < 0 then (some y282) else (if y282.length < 17592186044416 then (spec_Reached.l0 k (y282 ++ [1]) 0 l0_0 a0_1) else (none))))
set_option maxHeartbeats 8000000 in
set_option maxRecDepth 100000 in
theorem spec_Reached.calls (k : Nat) (A0_0 : Option Addr) (c0_0 : Nat) (l0_0 : List (S40)) (a0_1 : Int) (r : List Int) (w : World) (hr0_0 : Kd.C k40 w A0_0 l0_0.length l0_0) (hc0_0 : l0_0.length ≤ c0_0) (h : spec_Reached.f k l0_0 a0_1 = some r) :
  Calls Try.prog 18 #[.agg #[.slice A0_0 l0_0.length c0_0, .int .i64 a0_1]] w fun e w' => ∃ v0_ : Value, e = .returned (v0_) ∧ Kd.R (Kd.int .i64) 3 w' w.heap.size (fun _ => True) v0_ r ∧ Below w.heap.size w w' := by
 have hu34 := Try.underlying34
 have HR0_0 := Aside0.mk hr0_0
 have HC0_0 := Aside0.mk hc0_0
 clear hr0_0 hc0_0
 have HB := Aside0.mk (Below.refl w.heap.size w)
 unfold spec_Reached.f at h
 have H := h
 clear h
 obtain ⟨y282, hy282⟩ : ∃ y_ : List Int, y_ = (([] : List Int)) := ⟨_, rfl⟩
 replace H : ((spec_l4At.f k l0_0 a0_1 1).bind fun t285 => (if t285 < 0 then (some y282) else (if y282.length < 17592186044416 then (spec_Reached.l0 k (y282 ++ [1]) 0 l0_0 a0_1) else (none)))) = some r := by first | (rw [hy282]; with_reducible exact H) | (have H2_ := (Option.bind_some _ _).symm.trans H; rw [hy282]; with_reducible exact H2_) | (have H2_ := (Option.bind_some _ _).symm.trans H; with_reducible exact H2_) | with_reducible exact H | (rw [hy282]; exact H) | exact H
 have Ny282 := Aside0.mk hy282
 clear hy282
 replace H := bA H
 obtain ⟨t285, A2, H⟩ := H
 try dsimp only at H
 replace H := itD H
 rcases H with ⟨c3b0, H⟩ | ⟨c3b0, H⟩
 ·obtain rfl := Option.some.inj H
  go_enter Try.func18, Try.ntmps18
  go_wp2_with (first | ((with_reducible refine gate_dst (N := 1) rfl ?_); refine bx_ 1 #[.slice A0_0 l0_0.length c0_0, .int .i64 a0_1] 34 ?_; intro gb281 hg w4 hbox hb; have BK281 := Aside0.mk (hbox); have GW281 := gs_ hg; replace HB := Aside0.mk (below_step oB hb); clear hb hbox hg) | ((with_reducible refine gate_dst (N := 5) rfl ?_); refine Kd.R_lit (Kd.int .i64) _ 3 ?hg (N := 5) ?hd (xs := ([] : List Int)) (inner := []) (ok := fun _ => True) (okp := fun _ => True) ?hr ?hp (fun _ hk => hk) trivial (Below.refl _ _) (Nat.le_refl _) (by simp) ?_; (case hd => rfl); (case hg => rfl); (case hr => first | (go_simp; done) | (go_simp; rfl)); (case hp => exact (Reps.none _ _)); intro v283 w5 ho6 hb hg_ hnew_; clear hg_ hnew_; (first | rw [← Ny282.out] at ho6 | (simp only [Int.reduceToNat] at ho6; rw [← Ny282.out] at ho6)); have HO284 := Aside0.mk (Kd.R_lower ho6 (below_size oB)); replace BK281 := kb_ BK281 hb; replace HB := Aside0.mk (below_step oB hb); clear hb ho6; obtain ⟨⟨_, _⟩, _, _⟩ := z2 BK281) | ((with_reducible refine gate_callee (f := 36) rfl ?_); refine gl_ 7 Try.func36 (spec_l4At.calls k _ _ l0_0 a0_1 1 t285 _ (kC HR0_0) HC0_0.out A2.out) ?_; rintro e w8 ⟨rfl, hb⟩; refine ⟨_, rfl, ?_⟩; replace HO284 := kr_ HO284 hb; replace BK281 := kb_ BK281 hb; replace HB := Aside0.mk (below_step oB hb)))
  go_ret
  exact ⟨_, oE, oR HO284, oB⟩
 ·by_cases c9 : y282.length < 17592186044416
  ·rw [if_pos c9] at H
   have LMc9 := Aside0.mk c9
   clear c9
   obtain ⟨y286, hy286⟩ : ∃ y_ : List Int, y_ = (y282 ++ [1]) := ⟨_, rfl⟩
   replace H : (spec_Reached.l0 k y286 0 l0_0 a0_1) = some r := by first | (rw [hy286]; with_reducible exact H) | (have H2_ := (Option.bind_some _ _).symm.trans H; rw [hy286]; with_reducible exact H2_) | (have H2_ := (Option.bind_some _ _).symm.trans H; with_reducible exact H2_) | with_reducible exact H | (rw [hy286]; exact H) | exact H
   have Ny286 := Aside0.mk hy286
   clear hy286
   have H' := Aside0.mk H
   clear H
   go_enter Try.func18, Try.ntmps18
   go_wp2_with (first | ((with_reducible refine gate_dst (N := 1) rfl ?_); refine bx_ 1 #[.slice A0_0 l0_0.length c0_0, .int .i64 a0_1] 34 ?_; intro gb281 hg w10 hbox hb; have BK281 := Aside0.mk (hbox); have GW281 := gs_ hg; replace HB := Aside0.mk (below_step oB hb); clear hb hbox hg) | ((with_reducible refine gate_dst (N := 5) rfl ?_); refine Kd.R_lit (Kd.int .i64) _ 3 ?hg (N := 5) ?hd (xs := ([] : List Int)) (inner := []) (ok := fun _ => True) (okp := fun _ => True) ?hr ?hp (fun _ hk => hk) trivial (Below.refl _ _) (Nat.le_refl _) (by simp) ?_; (case hd => rfl); (case hg => rfl); (case hr => first | (go_simp; done) | (go_simp; rfl)); (case hp => exact (Reps.none _ _)); intro v283 w11 ho12 hb hg_ hnew_; clear hg_ hnew_; (first | rw [← Ny282.out] at ho12 | (simp only [Int.reduceToNat] at ho12; rw [← Ny282.out] at ho12)); have HO284 := Aside0.mk (Kd.R_lower ho12 (below_size oB)); replace BK281 := kb_ BK281 hb; replace HB := Aside0.mk (below_step oB hb); clear hb ho12; obtain ⟨⟨_, _⟩, _, _⟩ := z2 BK281) | ((with_reducible refine gate_callee (f := 36) rfl ?_); refine gl_ 7 Try.func36 (spec_l4At.calls k _ _ l0_0 a0_1 1 t285 _ (kC HR0_0) HC0_0.out A2.out) ?_; rintro e w14 ⟨rfl, hb⟩; refine ⟨_, rfl, ?_⟩; replace HO284 := kr_ HO284 hb; replace BK281 := kb_ BK281 hb; replace HB := Aside0.mk (below_step oB hb)) | ((with_reducible refine gate_builtin (b := .append) (xs := #[.tmp 10, .tmp 11]) rfl ?_); at_builtin; refine Kd.R_append (Kd.int .i64) (w0 := w) w.heap.size rfl (.tmp 10) (.tmp 11) 47 3 (.int .i64 0) 8 rfl Try.underlying47 info3 rfl (by decide) (by omega) v283 y282 1 [.int .i64 1] (fun _ => True) (fun _ => False) rfl rfl ?aP (fun _ hk => hk.elim) ?aF ?aO ?aB ?aS ?aL ?_; (case aP => exact rfl); (case aB => exact oB); (case aF => exact (fun _ _ => trivial)); (case aO => exact (oR HO284)); (case aS => exact (below_size oB)); (case aL => have := LMc9.out; omega); intro v287 w15 ho hb hg hat; rw [← Ny286.out] at ho; have HO288 := Aside0.mk (ho); replace BK281 := Aside0.mk (blk_grown (g := gb281) (o := .cells #[.slice A0_0 l0_0.length c0_0, .int .i64 a0_1] 34 (0, 0)) (oF BK281) hg (Kd.R_ne HO284.out BK281.out (by decide))); replace HB := Aside0.mk (hb); clear HO284; clear ho hb hg hat))
   go_loopg [3, 4] k (fun kq v3 v4 w' => ∃ (x3_1 : List Int) (x4_1 : Int), v4 = .int .i64 x4_1 ∧ Aside0 (spec_Reached.l0 kq x3_1 x4_1 l0_0 a0_1 = some r) ∧ Aside0 (kq ≤ k) ∧ Aside0 (Kd.R (Kd.int .i64) 3 w' w.heap.size (fun _ => True) v3 x3_1) ∧ Aside0 (w'.heap[gb281]? = some (.cells #[(.slice A0_0 l0_0.length c0_0), .int .i64 a0_1] 34 (0, 0))) ∧ Aside0 (Below w.heap.size w w'))
   case atStart => exact ⟨(y286), (0), oS, H', ⟨Nat.le_refl _⟩, ⟨oR HO288⟩, ⟨oF BK281⟩, ⟨oB⟩⟩
   case round =>
    clear H'
    try clear c3b0
    try clear c9
    obtain ⟨x3_1, x4_1, rfl, HA, HK1, HO_3, BK281, HB⟩ := hrel
    cases gk with
    | zero => exact absurd HA.out (by simp [spec_Reached.l0])
    | succ k1 =>
     have H := HA.out
     clear HA
     simp only [spec_Reached.l0] at H
     replace H := itD H
     rcases H with ⟨c16b0, H⟩ | ⟨c16b0, H⟩
     ·replace H := bA H
      obtain ⟨t289, A17, H⟩ := H
      try dsimp only at H
      have H' := Aside0.mk H
      clear H
      obtain ⟨⟨_, _⟩, _, _⟩ := z2 BK281
      obtain ⟨Ao19, co19, eo19⟩ := Kd.R_slice HO_3.out
      subst eo19
      go_wp2_with (first | ((with_reducible refine gate_callee (f := 57) rfl ?_); refine gl_ 22 Try.func57 (spec_l7Next.calls k1 _ _ l0_0 a0_1 _ _ x3_1 t289 w.heap.size _ (below_size oB) (kC HR0_0) HC0_0.out (oR HO_3) A17.out) ?_; rintro e w20 ⟨v290, rfl, ho0, hb⟩; refine ⟨_, rfl, ?_⟩; have HO291 := Aside0.mk ho0; replace HO_3 := kr_ HO_3 hb; replace BK281 := kb_ BK281 hb; replace HB := Aside0.mk (below_step oB hb)))
      go_roundg k1
      case measure => have := HK1.out; omega
      case rel => exact ⟨(t289), (wrap64 (x4_1 + 1)), oS, H', ⟨by have := HK1.out; omega⟩, ⟨by (with_reducible repeat (first | apply Kd.R_alloc | apply Kd.R_drewN | apply Kd.R_drew)); exact Kd.R_mono HO291.out (fun _ hk => trivial)⟩, ⟨oF BK281⟩, ⟨oB⟩⟩
     ·obtain rfl := Option.some.inj H
      obtain ⟨⟨_, _⟩, _, _⟩ := z2 BK281
      go_wp2
      go_ret
      exact ⟨_, oE, oR HO_3, oB⟩
  ·rw [if_neg c9] at H
   exact absurd H (by simp)

/-! ### spec_l1In: function 94 -/
def spec_l1In.f (a0 : Int) (a1 : Int) (a2 : Int) : Option (Bool) := if a0 ≥ a1 then (some (decide (a0 ≤ a2))) else (some false)
set_option maxHeartbeats 8000000 in
set_option maxRecDepth 100000 in
theorem spec_l1In.calls (a0 : Int) (a1 : Int) (a2 : Int) (r : Bool) (w : World) (h : spec_l1In.f a0 a1 a2 = some r) :
  Calls Try.prog 94 #[.int .i64 a0, .int .i64 a1, .int .i64 a2] w fun e w' => e = .returned (.bool r) ∧ Drawn0 w w' := by
 unfold spec_l1In.f at h
 have H := h
 clear h
 replace H := itH H
 rcases H with ⟨c4b0, H⟩ | ⟨c4b0, H⟩
 ·obtain rfl := Option.some.inj H
  go_enter Try.func94, Try.ntmps94
  go_wp2
  go_ret
  exact ⟨oS, oD⟩
 ·obtain rfl := Option.some.inj H
  go_enter Try.func94, Try.ntmps94
  go_wp2
  go_ret
  exact ⟨oS, oD⟩

/-! ### spec_NameOk: function 132 -/
def spec_NameOk.l0 : Nat → ByteArray → Int → Option (Bool)
 | 0, _, _ => none
 | k + 1, x0, x3 => if x3 < (x0.size : Int) then (if 0 ≤ x3 then ((spec_l1In.f (wrap64 (bt x0 x3)) 97 122).bind fun t293 => (if t293 = true then (spec_NameOk.l0 k x0 (wrap64 (x3 + 1))) else ((spec_l1In.f (wrap64 (bt x0 x3)) 48 57).bind fun t294 => (if t294 = true then (spec_NameOk.l0 k x0 (wrap64 (x3 + 1))) else (if (wrap64 (bt x0 x3)) = 95 then (spec_NameOk.l0 k x0 (wrap64 (x3 + 1))) else (if (wrap64 (bt x0 x3)) = 45 then (spec_NameOk.l0 k x0 (wrap64 (x3 + 1))) else (if (wrap64 (bt x0 x3)) = 46 then (spec_NameOk.l0 k x0 (wrap64 (x3 + 1))) else (some false)))))))) else (none)) else ((spec_l1In.f (x0.size : Int) 1 14).bind fun t292 => (if t292 = true then (if x0.toList = ([46] : List UInt8) then (some false) else (some (x0.toList != ([46, 46] : List UInt8)))) else (some false)))
def spec_NameOk.f (k : Nat) (a0 : ByteArray) : Option (Bool) := spec_NameOk.l0 k a0 0
set_option maxHeartbeats 8000000 in
set_option maxRecDepth 100000 in
theorem spec_NameOk.calls (k : Nat) (a0 : ByteArray) (r : Bool) (w : World) (h : spec_NameOk.f k a0 = some r) :
  Calls Try.prog 132 #[.string a0] w fun e w' => e = .returned (.bool r) ∧ Drawn0 w w' := by
 unfold spec_NameOk.f at h
 have H := h
 clear h
 have H' := Aside0.mk H
 clear H
 go_enter Try.func132, Try.ntmps132
 go_wp2
 go_loopg [3] k (fun kq v3 w' => ∃ (x3_1 : Int), v3 = .int .i64 x3_1 ∧ Aside0 (spec_NameOk.l0 kq a0 x3_1 = some r) ∧ Aside0 (kq ≤ k) ∧ Drawn0 w w')
 case atStart => exact ⟨(0), oS, H', ⟨Nat.le_refl _⟩, oD⟩
 case round =>
  clear H'
  obtain ⟨x3_1, rfl, HA, HK1, ⟨m1, rfl⟩⟩ := hrel
  cases gk with
  | zero => exact absurd HA.out (by simp [spec_NameOk.l0])
  | succ k1 =>
   have H := HA.out
   clear HA
   simp only [spec_NameOk.l0] at H
   replace H := itD H
   rcases H with ⟨c2b0, H⟩ | ⟨c2b0, H⟩
   ·replace H := itD H
    rcases H with ⟨c3b0, H⟩ | ⟨c3b0, H⟩
    ·replace H := bA H
     obtain ⟨t293, A5, H⟩ := H
     try dsimp only at H
     replace H := itB H
     rcases H with ⟨rfl, H⟩ | ⟨rfl, H⟩
     ·have H' := Aside0.mk H
      clear H
      have p4 : (0 ≤ (x3_1 : Int)) = True := oT
      have q4 : (x3_1 < (a0.size : Int)) = True := oT
      have hx4 := bt_at a0 x3_1
      go_wp2_with (first | ((with_reducible refine gate_callee (f := 94) rfl ?_); refine gl_ 16 Try.func94 (spec_l1In.calls (wrap64 (bt a0 x3_1)) 97 122 true _ A5.out) ?_; rintro e w' ⟨rfl, ⟨nd, rfl⟩⟩; refine ⟨_, rfl, ?_⟩))
      go_roundg k1
      case measure => have := HK1.out; omega
      case rel => exact ⟨(wrap64 (x3_1 + 1)), oS, H', ⟨by have := HK1.out; omega⟩, oD⟩
     ·replace H := bA H
      obtain ⟨t294, A7, H⟩ := H
      try dsimp only at H
      replace H := itB H
      rcases H with ⟨rfl, H⟩ | ⟨rfl, H⟩
      ·have H' := Aside0.mk H
       clear H
       have p4 : (0 ≤ (x3_1 : Int)) = True := oT
       have q4 : (x3_1 < (a0.size : Int)) = True := oT
       have hx4 := bt_at a0 x3_1
       go_wp2_with (first | ((with_reducible refine gate_callee (f := 94) rfl ?_); refine gl_ 16 Try.func94 (spec_l1In.calls (wrap64 (bt a0 x3_1)) 97 122 false _ A5.out) ?_; rintro e w' ⟨rfl, ⟨nd, rfl⟩⟩; refine ⟨_, rfl, ?_⟩) | (go_at_call 94; (with_reducible refine (spec_l1In.calls (wrap64 (bt a0 x3_1)) 48 57 true _ A7.out).mono ?_); rintro e w' ⟨rfl, ⟨nd, rfl⟩⟩))
       go_roundg k1
       case measure => have := HK1.out; omega
       case rel => exact ⟨(wrap64 (x3_1 + 1)), oS, H', ⟨by have := HK1.out; omega⟩, oD⟩
      ·by_cases c9 : (wrap64 (bt a0 x3_1)) = 95
       ·rw [if_pos c9] at H
        have c9b0 : ((wrap64 (bt a0 x3_1)) == 95) = true := beq_iff_eq.mpr c9
        have c9b1 : ((wrap64 (bt a0 x3_1)) != 95) = false := bne_eq_false_iff_eq.mpr c9
        clear c9
        have H' := Aside0.mk H
        clear H
        have p4 : (0 ≤ (x3_1 : Int)) = True := oT
        have q4 : (x3_1 < (a0.size : Int)) = True := oT
        have hx4 := bt_at a0 x3_1
        go_wp2_with (first | ((with_reducible refine gate_callee (f := 94) rfl ?_); refine gl_ 16 Try.func94 (spec_l1In.calls (wrap64 (bt a0 x3_1)) 97 122 false _ A5.out) ?_; rintro e w' ⟨rfl, ⟨nd, rfl⟩⟩; refine ⟨_, rfl, ?_⟩) | (go_at_call 94; (with_reducible refine (spec_l1In.calls (wrap64 (bt a0 x3_1)) 48 57 false _ A7.out).mono ?_); rintro e w' ⟨rfl, ⟨nd, rfl⟩⟩))
        go_roundg k1
        case measure => have := HK1.out; omega
        case rel => exact ⟨(wrap64 (x3_1 + 1)), oS, H', ⟨by have := HK1.out; omega⟩, oD⟩
       ·rw [if_neg c9] at H
        have c9b0 : ((wrap64 (bt a0 x3_1)) == 95) = false := beq_eq_false_iff_ne.mpr c9
        have c9b1 : ((wrap64 (bt a0 x3_1)) != 95) = true := bne_iff_ne.mpr c9
        by_cases c10 : (wrap64 (bt a0 x3_1)) = 45
        ·rw [if_pos c10] at H
         have c10b0 : ((wrap64 (bt a0 x3_1)) == 45) = true := beq_iff_eq.mpr c10
         have c10b1 : ((wrap64 (bt a0 x3_1)) != 45) = false := bne_eq_false_iff_eq.mpr c10
         clear c10
         have H' := Aside0.mk H
         clear H
         have p4 : (0 ≤ (x3_1 : Int)) = True := oT
         have q4 : (x3_1 < (a0.size : Int)) = True := oT
         have hx4 := bt_at a0 x3_1
         go_wp2_with (first | ((with_reducible refine gate_callee (f := 94) rfl ?_); refine gl_ 16 Try.func94 (spec_l1In.calls (wrap64 (bt a0 x3_1)) 97 122 false _ A5.out) ?_; rintro e w' ⟨rfl, ⟨nd, rfl⟩⟩; refine ⟨_, rfl, ?_⟩) | (go_at_call 94; (with_reducible refine (spec_l1In.calls (wrap64 (bt a0 x3_1)) 48 57 false _ A7.out).mono ?_); rintro e w' ⟨rfl, ⟨nd, rfl⟩⟩))
         go_roundg k1
         case measure => have := HK1.out; omega
         case rel => exact ⟨(wrap64 (x3_1 + 1)), oS, H', ⟨by have := HK1.out; omega⟩, oD⟩
        ·rw [if_neg c10] at H
         have c10b0 : ((wrap64 (bt a0 x3_1)) == 45) = false := beq_eq_false_iff_ne.mpr c10
         have c10b1 : ((wrap64 (bt a0 x3_1)) != 45) = true := bne_iff_ne.mpr c10
         by_cases c11 : (wrap64 (bt a0 x3_1)) = 46
         ·rw [if_pos c11] at H
          have c11b0 : ((wrap64 (bt a0 x3_1)) == 46) = true := beq_iff_eq.mpr c11
          have c11b1 : ((wrap64 (bt a0 x3_1)) != 46) = false := bne_eq_false_iff_eq.mpr c11
          clear c11
          have H' := Aside0.mk H
          clear H
          have p4 : (0 ≤ (x3_1 : Int)) = True := oT
          have q4 : (x3_1 < (a0.size : Int)) = True := oT
          have hx4 := bt_at a0 x3_1
          go_wp2_with (first | ((with_reducible refine gate_callee (f := 94) rfl ?_); refine gl_ 16 Try.func94 (spec_l1In.calls (wrap64 (bt a0 x3_1)) 97 122 false _ A5.out) ?_; rintro e w' ⟨rfl, ⟨nd, rfl⟩⟩; refine ⟨_, rfl, ?_⟩) | (go_at_call 94; (with_reducible refine (spec_l1In.calls (wrap64 (bt a0 x3_1)) 48 57 false _ A7.out).mono ?_); rintro e w' ⟨rfl, ⟨nd, rfl⟩⟩))
          go_roundg k1
          case measure => have := HK1.out; omega
          case rel => exact ⟨(wrap64 (x3_1 + 1)), oS, H', ⟨by have := HK1.out; omega⟩, oD⟩
         ·rw [if_neg c11] at H
          have c11b0 : ((wrap64 (bt a0 x3_1)) == 46) = false := beq_eq_false_iff_ne.mpr c11
          have c11b1 : ((wrap64 (bt a0 x3_1)) != 46) = true := bne_iff_ne.mpr c11
          obtain rfl := Option.some.inj H
          have p4 : (0 ≤ (x3_1 : Int)) = True := oT
          have q4 : (x3_1 < (a0.size : Int)) = True := oT
          have hx4 := bt_at a0 x3_1
          go_wp2_with (first | ((with_reducible refine gate_callee (f := 94) rfl ?_); refine gl_ 16 Try.func94 (spec_l1In.calls (wrap64 (bt a0 x3_1)) 97 122 false _ A5.out) ?_; rintro e w' ⟨rfl, ⟨nd, rfl⟩⟩; refine ⟨_, rfl, ?_⟩) | (go_at_call 94; (with_reducible refine (spec_l1In.calls (wrap64 (bt a0 x3_1)) 48 57 false _ A7.out).mono ?_); rintro e w' ⟨rfl, ⟨nd, rfl⟩⟩))
          go_ret
          exact ⟨oS, oD⟩
    ·cases H
   ·replace H := bA H
    obtain ⟨t292, A12, H⟩ := H
    try dsimp only at H
    replace H := itB H
    rcases H with ⟨rfl, H⟩ | ⟨rfl, H⟩
    ·by_cases c14 : a0.toList = ([46] : List UInt8)
     ·rw [if_pos c14] at H
      have c14b0 : (a0.toList == ([46] : List UInt8)) = true := beq_iff_eq.mpr c14
      have c14b1 : (a0.toList != ([46] : List UInt8)) = false := bne_eq_false_iff_eq.mpr c14
      clear c14
      obtain rfl := Option.some.inj H
      go_wp2_with (first | ((with_reducible refine gate_callee (f := 94) rfl ?_); refine gl_ 37 Try.func94 (spec_l1In.calls (a0.size : Int) 1 14 true _ A12.out) ?_; rintro e w' ⟨rfl, ⟨nd, rfl⟩⟩; refine ⟨_, rfl, ?_⟩))
      go_ret
      exact ⟨oS, oD⟩
     ·rw [if_neg c14] at H
      have c14b0 : (a0.toList == ([46] : List UInt8)) = false := beq_eq_false_iff_ne.mpr c14
      have c14b1 : (a0.toList != ([46] : List UInt8)) = true := bne_iff_ne.mpr c14
      obtain rfl := Option.some.inj H
      go_wp2_with (first | ((with_reducible refine gate_callee (f := 94) rfl ?_); refine gl_ 37 Try.func94 (spec_l1In.calls (a0.size : Int) 1 14 true _ A12.out) ?_; rintro e w' ⟨rfl, ⟨nd, rfl⟩⟩; refine ⟨_, rfl, ?_⟩))
      go_ret
      exact ⟨oS, oD⟩
    ·obtain rfl := Option.some.inj H
     go_wp2_with (first | ((with_reducible refine gate_callee (f := 94) rfl ?_); refine gl_ 37 Try.func94 (spec_l1In.calls (a0.size : Int) 1 14 false _ A12.out) ?_; rintro e w' ⟨rfl, ⟨nd, rfl⟩⟩; refine ⟨_, rfl, ?_⟩))
     go_ret
     exact ⟨oS, oD⟩

/-! ### spec_l3Ents: function 116 -/
def spec_l3Ents.l0 : Nat → List (S82) → Int → Option (Bool)
 | 0, _, _ => none
 | k + 1, x0, x3 => if x3 < (x0.length : Int) then (if 0 ≤ x3 then ((spec_NameOk.f k ((rd_T82 x0 x3).f0)).bind fun t296 => (if t296 = true then ((spec_l1In.f ((rd_T82 x0 x3).f1) 2 1000).bind fun t298 => (if t298 = true then (if x3 > 0 then (if 0 ≤ (wrap64 (x3 - 1)) then (if (wrap64 (x3 - 1)) < (x0.length : Int) then (if ((Op.bytesLess (((rd_T82 x0 (wrap64 (x3 - 1))).f0).toList) (((rd_T82 x0 x3).f0).toList)) = true) then (spec_l3Ents.l0 k x0 (wrap64 (x3 + 1))) else (some false)) else (none)) else (none)) else (spec_l3Ents.l0 k x0 (wrap64 (x3 + 1)))) else (some false))) else (some false))) else (none)) else (some (decide ((x0.length : Int) ≤ 10)))
def spec_l3Ents.f (k : Nat) (l0 : List (S82)) : Option (Bool) := spec_l3Ents.l0 k l0 0
set_option maxHeartbeats 8000000 in
set_option maxRecDepth 100000 in
theorem spec_l3Ents.calls (k : Nat) (A0 : Option Addr) (c0 : Nat) (l0 : List (S82)) (r : Bool) (w : World) (hr0 : Kd.C k82 w A0 l0.length l0) (hc0 : l0.length ≤ c0) (h : spec_l3Ents.f k l0 = some r) :
  Calls Try.prog 116 #[.slice A0 l0.length c0] w fun e w' => e = .returned (.bool r) ∧ Drawn0 w w' := by
 have HR0 := Aside0.mk hr0
 have HC0 := Aside0.mk hc0
 clear hr0 hc0
 unfold spec_l3Ents.f at h
 have H := h
 clear h
 have H' := Aside0.mk H
 clear H
 go_enter Try.func116, Try.ntmps116
 go_wp2
 repeat (go_quiet (fail); try go_wp2)
 go_loopg [3] k (fun kq v3 w' => ∃ (x3_1 : Int), v3 = .int .i64 x3_1 ∧ Aside0 (spec_l3Ents.l0 kq l0 x3_1 = some r) ∧ Aside0 (kq ≤ k) ∧ Drawn0 w w')
 case atStart => exact ⟨(0), oS, H', ⟨Nat.le_refl _⟩, oD⟩
 case round =>
  clear H'
  obtain ⟨x3_1, rfl, HA, HK1, ⟨m1, rfl⟩⟩ := hrel
  cases gk with
  | zero => exact absurd HA.out (by simp [spec_l3Ents.l0])
  | succ k1 =>
   have H := HA.out
   clear HA
   simp only [spec_l3Ents.l0] at H
   replace H := itD H
   rcases H with ⟨c2b0, H⟩ | ⟨c2b0, H⟩
   ·replace H := itD H
    rcases H with ⟨c3b0, H⟩ | ⟨c3b0, H⟩
    ·replace H := bA H
     obtain ⟨t296, A4, H⟩ := H
     try dsimp only at H
     replace H := itB H
     rcases H with ⟨rfl, H⟩ | ⟨rfl, H⟩
     ·replace H := bA H
      obtain ⟨t298, A6, H⟩ := H
      try dsimp only at H
      replace H := itB H
      rcases H with ⟨rfl, H⟩ | ⟨rfl, H⟩
      ·replace H := itG H
       rcases H with ⟨c8b0, H⟩ | ⟨c8b0, H⟩
       ·obtain ⟨ji9, hji9⟩ : ∃ j_ : Int, (wrap64 (x3_1 - 1)) = j_ := ⟨_, rfl⟩
        replace H : (if 0 ≤ (ji9) then (if (ji9) < (l0.length : Int) then (if ((Op.bytesLess (((rd_T82 l0 (ji9)).f0).toList) (((rd_T82 l0 x3_1).f0).toList)) = true) then (spec_l3Ents.l0 k1 l0 (wrap64 (x3_1 + 1))) else (some false)) else (none)) else (none)) = some r := by first | (rw [hji9] at H; exact H) | (simp only [hji9] at H ⊢; exact H)
        (try rw [hji9] at A4)
        (try rw [hji9] at A6)
        have hji9w : (IntKind.i64.wrap (x3_1 - 1)) = ji9 := (i64_w _).trans hji9
        replace H := itD H
        rcases H with ⟨c10b0, H⟩ | ⟨c10b0, H⟩
        ·replace H := itD H
         rcases H with ⟨c11b0, H⟩ | ⟨c11b0, H⟩
         ·by_cases c12 : ((Op.bytesLess (((rd_T82 l0 (ji9)).f0).toList) (((rd_T82 l0 x3_1).f0).toList)) = true)
          ·rw [if_pos c12] at H
           have c12b0 : (Op.bytesLess (((rd_T82 l0 (ji9)).f0).toList) (((rd_T82 l0 x3_1).f0).toList)) = true := c12
           clear c12
           have H' := Aside0.mk H
           clear H
           have p295 : (0 ≤ (x3_1 : Int)) = True := oT
           have q295 : (x3_1 < (l0.length : Int)) = True := oT
           obtain ⟨ad295, e295, hx295_0, hx295_1⟩ := at_T82 HR0.out x3_1 oa oa
           cases e295
           go_wp2_with (first | (go_at_call 132; (with_reducible refine (spec_NameOk.calls k1 ((rd_T82 l0 x3_1).f0) true _ A4.out).mono ?_); rintro e w' ⟨rfl, ⟨nd, rfl⟩⟩; have p297 : (0 ≤ (x3_1 : Int)) = True := oT; have q297 : (x3_1 < (l0.length : Int)) = True := oT; obtain ⟨ad297, e297, hx297_0, hx297_1⟩ := at_T82 HR0.out x3_1 oa oa; obtain rfl : ad295 = ad297 := (by injection e297)) | (go_at_call 94; (with_reducible refine (spec_l1In.calls ((rd_T82 l0 x3_1).f1) 2 1000 true _ A6.out).mono ?_); rintro e w' ⟨rfl, ⟨nd, rfl⟩⟩; have p299 : (0 ≤ ((ji9) : Int)) = True := oT; have q299 : ((ji9) < (l0.length : Int)) = True := oT; obtain ⟨ad299, e299, hx299_0, hx299_1⟩ := at_T82 HR0.out (ji9) oa oa; obtain rfl : ad295 = ad299 := (by injection e299); have p300 : (0 ≤ (x3_1 : Int)) = True := oT; have q300 : (x3_1 < (l0.length : Int)) = True := oT; obtain ⟨ad300, e300, hx300_0, hx300_1⟩ := at_T82 HR0.out x3_1 oa oa; obtain rfl : ad295 = ad300 := (by injection e300)))
           try (have p297 : 0 ≤ (x3_1 : Int) := oa; have q297 : x3_1 < (l0.length : Int) := oa; obtain ⟨ad297, e297, hx297_0, hx297_1⟩ := at_T82 HR0.out x3_1 p297 q297; obtain rfl : ad295 = ad297 := (by injection e297); replace p297 := eq_true p297; replace q297 := eq_true q297)
           try (have p299 : 0 ≤ ((ji9) : Int) := oa; have q299 : (ji9) < (l0.length : Int) := oa; obtain ⟨ad299, e299, hx299_0, hx299_1⟩ := at_T82 HR0.out (ji9) p299 q299; obtain rfl : ad295 = ad299 := (by injection e299); replace p299 := eq_true p299; replace q299 := eq_true q299; have p300 : 0 ≤ (x3_1 : Int) := oa; have q300 : x3_1 < (l0.length : Int) := oa; obtain ⟨ad300, e300, hx300_0, hx300_1⟩ := at_T82 HR0.out x3_1 p300 q300; obtain rfl : ad295 = ad300 := (by injection e300); replace p300 := eq_true p300; replace q300 := eq_true q300)
           repeat (go_quiet (first | (go_at_call 132; (with_reducible refine (spec_NameOk.calls k1 ((rd_T82 l0 x3_1).f0) true _ A4.out).mono ?_); rintro e w' ⟨rfl, ⟨nd, rfl⟩⟩; exact oQ) | (go_at_call 94; (with_reducible refine (spec_l1In.calls ((rd_T82 l0 x3_1).f1) 2 1000 true _ A6.out).mono ?_); rintro e w' ⟨rfl, ⟨nd, rfl⟩⟩; exact oQ)); try go_wp2_with (first | (go_at_call 132; (with_reducible refine (spec_NameOk.calls k1 ((rd_T82 l0 x3_1).f0) true _ A4.out).mono ?_); rintro e w' ⟨rfl, ⟨nd, rfl⟩⟩; have p297 : (0 ≤ (x3_1 : Int)) = True := oT; have q297 : (x3_1 < (l0.length : Int)) = True := oT; obtain ⟨ad297, e297, hx297_0, hx297_1⟩ := at_T82 HR0.out x3_1 oa oa; obtain rfl : ad295 = ad297 := (by injection e297)) | (go_at_call 94; (with_reducible refine (spec_l1In.calls ((rd_T82 l0 x3_1).f1) 2 1000 true _ A6.out).mono ?_); rintro e w' ⟨rfl, ⟨nd, rfl⟩⟩; have p299 : (0 ≤ ((ji9) : Int)) = True := oT; have q299 : ((ji9) < (l0.length : Int)) = True := oT; obtain ⟨ad299, e299, hx299_0, hx299_1⟩ := at_T82 HR0.out (ji9) oa oa; obtain rfl : ad295 = ad299 := (by injection e299); have p300 : (0 ≤ (x3_1 : Int)) = True := oT; have q300 : (x3_1 < (l0.length : Int)) = True := oT; obtain ⟨ad300, e300, hx300_0, hx300_1⟩ := at_T82 HR0.out x3_1 oa oa; obtain rfl : ad295 = ad300 := (by injection e300))))
           go_roundg k1
           case measure => have := HK1.out; omega
           case rel => exact ⟨(wrap64 (x3_1 + 1)), oS, H', ⟨by have := HK1.out; omega⟩, oD⟩
          ·rw [if_neg c12] at H
           have c12b0 : (Op.bytesLess (((rd_T82 l0 (ji9)).f0).toList) (((rd_T82 l0 x3_1).f0).toList)) = false := by simpa using c12
           clear c12
           obtain rfl := Option.some.inj H
           have p295 : (0 ≤ (x3_1 : Int)) = True := oT
           have q295 : (x3_1 < (l0.length : Int)) = True := oT
           obtain ⟨ad295, e295, hx295_0, hx295_1⟩ := at_T82 HR0.out x3_1 oa oa
           cases e295
           go_wp2_with (first | (go_at_call 132; (with_reducible refine (spec_NameOk.calls k1 ((rd_T82 l0 x3_1).f0) true _ A4.out).mono ?_); rintro e w' ⟨rfl, ⟨nd, rfl⟩⟩; have p297 : (0 ≤ (x3_1 : Int)) = True := oT; have q297 : (x3_1 < (l0.length : Int)) = True := oT; obtain ⟨ad297, e297, hx297_0, hx297_1⟩ := at_T82 HR0.out x3_1 oa oa; obtain rfl : ad295 = ad297 := (by injection e297)) | (go_at_call 94; (with_reducible refine (spec_l1In.calls ((rd_T82 l0 x3_1).f1) 2 1000 true _ A6.out).mono ?_); rintro e w' ⟨rfl, ⟨nd, rfl⟩⟩; have p299 : (0 ≤ ((ji9) : Int)) = True := oT; have q299 : ((ji9) < (l0.length : Int)) = True := oT; obtain ⟨ad299, e299, hx299_0, hx299_1⟩ := at_T82 HR0.out (ji9) oa oa; obtain rfl : ad295 = ad299 := (by injection e299); have p300 : (0 ≤ (x3_1 : Int)) = True := oT; have q300 : (x3_1 < (l0.length : Int)) = True := oT; obtain ⟨ad300, e300, hx300_0, hx300_1⟩ := at_T82 HR0.out x3_1 oa oa; obtain rfl : ad295 = ad300 := (by injection e300)))
           try (have p297 : 0 ≤ (x3_1 : Int) := oa; have q297 : x3_1 < (l0.length : Int) := oa; obtain ⟨ad297, e297, hx297_0, hx297_1⟩ := at_T82 HR0.out x3_1 p297 q297; obtain rfl : ad295 = ad297 := (by injection e297); replace p297 := eq_true p297; replace q297 := eq_true q297)
           try (have p299 : 0 ≤ ((ji9) : Int) := oa; have q299 : (ji9) < (l0.length : Int) := oa; obtain ⟨ad299, e299, hx299_0, hx299_1⟩ := at_T82 HR0.out (ji9) p299 q299; obtain rfl : ad295 = ad299 := (by injection e299); replace p299 := eq_true p299; replace q299 := eq_true q299; have p300 : 0 ≤ (x3_1 : Int) := oa; have q300 : x3_1 < (l0.length : Int) := oa; obtain ⟨ad300, e300, hx300_0, hx300_1⟩ := at_T82 HR0.out x3_1 p300 q300; obtain rfl : ad295 = ad300 := (by injection e300); replace p300 := eq_true p300; replace q300 := eq_true q300)
           repeat (go_quiet (first | (go_at_call 132; (with_reducible refine (spec_NameOk.calls k1 ((rd_T82 l0 x3_1).f0) true _ A4.out).mono ?_); rintro e w' ⟨rfl, ⟨nd, rfl⟩⟩; exact oQ) | (go_at_call 94; (with_reducible refine (spec_l1In.calls ((rd_T82 l0 x3_1).f1) 2 1000 true _ A6.out).mono ?_); rintro e w' ⟨rfl, ⟨nd, rfl⟩⟩; exact oQ)); try go_wp2_with (first | (go_at_call 132; (with_reducible refine (spec_NameOk.calls k1 ((rd_T82 l0 x3_1).f0) true _ A4.out).mono ?_); rintro e w' ⟨rfl, ⟨nd, rfl⟩⟩; have p297 : (0 ≤ (x3_1 : Int)) = True := oT; have q297 : (x3_1 < (l0.length : Int)) = True := oT; obtain ⟨ad297, e297, hx297_0, hx297_1⟩ := at_T82 HR0.out x3_1 oa oa; obtain rfl : ad295 = ad297 := (by injection e297)) | (go_at_call 94; (with_reducible refine (spec_l1In.calls ((rd_T82 l0 x3_1).f1) 2 1000 true _ A6.out).mono ?_); rintro e w' ⟨rfl, ⟨nd, rfl⟩⟩; have p299 : (0 ≤ ((ji9) : Int)) = True := oT; have q299 : ((ji9) < (l0.length : Int)) = True := oT; obtain ⟨ad299, e299, hx299_0, hx299_1⟩ := at_T82 HR0.out (ji9) oa oa; obtain rfl : ad295 = ad299 := (by injection e299); have p300 : (0 ≤ (x3_1 : Int)) = True := oT; have q300 : (x3_1 < (l0.length : Int)) = True := oT; obtain ⟨ad300, e300, hx300_0, hx300_1⟩ := at_T82 HR0.out x3_1 oa oa; obtain rfl : ad295 = ad300 := (by injection e300))))
           go_ret
           exact ⟨by first | rfl | (simp; done) | (simp only [← hji9] <;> (first | rfl | simp)) | (simp [*]; done), oD⟩
         ·cases H
        ·cases H
       ·have H' := Aside0.mk H
        clear H
        have p295 : (0 ≤ (x3_1 : Int)) = True := oT
        have q295 : (x3_1 < (l0.length : Int)) = True := oT
        obtain ⟨ad295, e295, hx295_0, hx295_1⟩ := at_T82 HR0.out x3_1 oa oa
        cases e295
        go_wp2_with (first | (go_at_call 132; (with_reducible refine (spec_NameOk.calls k1 ((rd_T82 l0 x3_1).f0) true _ A4.out).mono ?_); rintro e w' ⟨rfl, ⟨nd, rfl⟩⟩; have p297 : (0 ≤ (x3_1 : Int)) = True := oT; have q297 : (x3_1 < (l0.length : Int)) = True := oT; obtain ⟨ad297, e297, hx297_0, hx297_1⟩ := at_T82 HR0.out x3_1 oa oa; obtain rfl : ad295 = ad297 := (by injection e297)) | (go_at_call 94; (with_reducible refine (spec_l1In.calls ((rd_T82 l0 x3_1).f1) 2 1000 true _ A6.out).mono ?_); rintro e w' ⟨rfl, ⟨nd, rfl⟩⟩))
        try (have p297 : 0 ≤ (x3_1 : Int) := oa; have q297 : x3_1 < (l0.length : Int) := oa; obtain ⟨ad297, e297, hx297_0, hx297_1⟩ := at_T82 HR0.out x3_1 p297 q297; obtain rfl : ad295 = ad297 := (by injection e297); replace p297 := eq_true p297; replace q297 := eq_true q297)
        repeat (go_quiet (first | (go_at_call 132; (with_reducible refine (spec_NameOk.calls k1 ((rd_T82 l0 x3_1).f0) true _ A4.out).mono ?_); rintro e w' ⟨rfl, ⟨nd, rfl⟩⟩; exact oQ) | (go_at_call 94; (with_reducible refine (spec_l1In.calls ((rd_T82 l0 x3_1).f1) 2 1000 true _ A6.out).mono ?_); rintro e w' ⟨rfl, ⟨nd, rfl⟩⟩; exact oQ)); try go_wp2_with (first | (go_at_call 132; (with_reducible refine (spec_NameOk.calls k1 ((rd_T82 l0 x3_1).f0) true _ A4.out).mono ?_); rintro e w' ⟨rfl, ⟨nd, rfl⟩⟩; have p297 : (0 ≤ (x3_1 : Int)) = True := oT; have q297 : (x3_1 < (l0.length : Int)) = True := oT; obtain ⟨ad297, e297, hx297_0, hx297_1⟩ := at_T82 HR0.out x3_1 oa oa; obtain rfl : ad295 = ad297 := (by injection e297)) | (go_at_call 94; (with_reducible refine (spec_l1In.calls ((rd_T82 l0 x3_1).f1) 2 1000 true _ A6.out).mono ?_); rintro e w' ⟨rfl, ⟨nd, rfl⟩⟩)))
        go_roundg k1
        case measure => have := HK1.out; omega
        case rel => exact ⟨(wrap64 (x3_1 + 1)), oS, H', ⟨by have := HK1.out; omega⟩, oD⟩
      ·obtain rfl := Option.some.inj H
       have p295 : (0 ≤ (x3_1 : Int)) = True := oT
       have q295 : (x3_1 < (l0.length : Int)) = True := oT
       obtain ⟨ad295, e295, hx295_0, hx295_1⟩ := at_T82 HR0.out x3_1 oa oa
       cases e295
       go_wp2_with (first | (go_at_call 132; (with_reducible refine (spec_NameOk.calls k1 ((rd_T82 l0 x3_1).f0) true _ A4.out).mono ?_); rintro e w' ⟨rfl, ⟨nd, rfl⟩⟩; have p297 : (0 ≤ (x3_1 : Int)) = True := oT; have q297 : (x3_1 < (l0.length : Int)) = True := oT; obtain ⟨ad297, e297, hx297_0, hx297_1⟩ := at_T82 HR0.out x3_1 oa oa; obtain rfl : ad295 = ad297 := (by injection e297)) | (go_at_call 94; (with_reducible refine (spec_l1In.calls ((rd_T82 l0 x3_1).f1) 2 1000 false _ A6.out).mono ?_); rintro e w' ⟨rfl, ⟨nd, rfl⟩⟩))
       try (have p297 : 0 ≤ (x3_1 : Int) := oa; have q297 : x3_1 < (l0.length : Int) := oa; obtain ⟨ad297, e297, hx297_0, hx297_1⟩ := at_T82 HR0.out x3_1 p297 q297; obtain rfl : ad295 = ad297 := (by injection e297); replace p297 := eq_true p297; replace q297 := eq_true q297)
       repeat (go_quiet (first | (go_at_call 132; (with_reducible refine (spec_NameOk.calls k1 ((rd_T82 l0 x3_1).f0) true _ A4.out).mono ?_); rintro e w' ⟨rfl, ⟨nd, rfl⟩⟩; exact oQ) | (go_at_call 94; (with_reducible refine (spec_l1In.calls ((rd_T82 l0 x3_1).f1) 2 1000 false _ A6.out).mono ?_); rintro e w' ⟨rfl, ⟨nd, rfl⟩⟩; exact oQ)); try go_wp2_with (first | (go_at_call 132; (with_reducible refine (spec_NameOk.calls k1 ((rd_T82 l0 x3_1).f0) true _ A4.out).mono ?_); rintro e w' ⟨rfl, ⟨nd, rfl⟩⟩; have p297 : (0 ≤ (x3_1 : Int)) = True := oT; have q297 : (x3_1 < (l0.length : Int)) = True := oT; obtain ⟨ad297, e297, hx297_0, hx297_1⟩ := at_T82 HR0.out x3_1 oa oa; obtain rfl : ad295 = ad297 := (by injection e297)) | (go_at_call 94; (with_reducible refine (spec_l1In.calls ((rd_T82 l0 x3_1).f1) 2 1000 false _ A6.out).mono ?_); rintro e w' ⟨rfl, ⟨nd, rfl⟩⟩)))
       go_ret
       exact ⟨oS, oD⟩
     ·obtain rfl := Option.some.inj H
      have p295 : (0 ≤ (x3_1 : Int)) = True := oT
      have q295 : (x3_1 < (l0.length : Int)) = True := oT
      obtain ⟨ad295, e295, hx295_0, hx295_1⟩ := at_T82 HR0.out x3_1 oa oa
      cases e295
      go_wp2_with (first | (go_at_call 132; (with_reducible refine (spec_NameOk.calls k1 ((rd_T82 l0 x3_1).f0) false _ A4.out).mono ?_); rintro e w' ⟨rfl, ⟨nd, rfl⟩⟩))
      repeat (go_quiet (first | (go_at_call 132; (with_reducible refine (spec_NameOk.calls k1 ((rd_T82 l0 x3_1).f0) false _ A4.out).mono ?_); rintro e w' ⟨rfl, ⟨nd, rfl⟩⟩; exact oQ)); try go_wp2_with (first | (go_at_call 132; (with_reducible refine (spec_NameOk.calls k1 ((rd_T82 l0 x3_1).f0) false _ A4.out).mono ?_); rintro e w' ⟨rfl, ⟨nd, rfl⟩⟩)))
      go_ret
      exact ⟨oS, oD⟩
    ·cases H
   ·obtain rfl := Option.some.inj H
    go_wp2
    repeat (go_quiet (fail); try go_wp2)
    go_ret
    exact ⟨oS, oD⟩

/-! ### spec_l3Attrs: function 117 -/
def spec_l3Attrs.l0 : Nat → List (S90) → Int → Option (Bool)
 | 0, _, _ => none
 | k + 1, x0, x3 => if x3 < (x0.length : Int) then (if 0 ≤ x3 then ((spec_NameOk.f k ((rd_T90 x0 x3).f0)).bind fun t302 => (if t302 = true then ((spec_l1In.f (((rd_T90 x0 x3).f1).size : Int) 1 16).bind fun t304 => (if t304 = true then (if x3 > 0 then (if 0 ≤ (wrap64 (x3 - 1)) then (if (wrap64 (x3 - 1)) < (x0.length : Int) then (if ((Op.bytesLess (((rd_T90 x0 (wrap64 (x3 - 1))).f0).toList) (((rd_T90 x0 x3).f0).toList)) = true) then (spec_l3Attrs.l0 k x0 (wrap64 (x3 + 1))) else (some false)) else (none)) else (none)) else (spec_l3Attrs.l0 k x0 (wrap64 (x3 + 1)))) else (some false))) else (some false))) else (none)) else (some (decide ((x0.length : Int) ≤ 4)))
def spec_l3Attrs.f (k : Nat) (l0 : List (S90)) : Option (Bool) := spec_l3Attrs.l0 k l0 0
set_option maxHeartbeats 8000000 in
set_option maxRecDepth 100000 in
theorem spec_l3Attrs.calls (k : Nat) (A0 : Option Addr) (c0 : Nat) (l0 : List (S90)) (r : Bool) (w : World) (hr0 : Kd.C k90 w A0 l0.length l0) (hc0 : l0.length ≤ c0) (h : spec_l3Attrs.f k l0 = some r) :
  Calls Try.prog 117 #[.slice A0 l0.length c0] w fun e w' => e = .returned (.bool r) ∧ Drawn0 w w' := by
 have HR0 := Aside0.mk hr0
 have HC0 := Aside0.mk hc0
 clear hr0 hc0
 unfold spec_l3Attrs.f at h
 have H := h
 clear h
 have H' := Aside0.mk H
 clear H
 go_enter Try.func117, Try.ntmps117
 go_wp2
 repeat (go_quiet (fail); try go_wp2)
 go_loopg [3] k (fun kq v3 w' => ∃ (x3_1 : Int), v3 = .int .i64 x3_1 ∧ Aside0 (spec_l3Attrs.l0 kq l0 x3_1 = some r) ∧ Aside0 (kq ≤ k) ∧ Drawn0 w w')
 case atStart => exact ⟨(0), oS, H', ⟨Nat.le_refl _⟩, oD⟩
 case round =>
  clear H'
  obtain ⟨x3_1, rfl, HA, HK1, ⟨m1, rfl⟩⟩ := hrel
  cases gk with
  | zero => exact absurd HA.out (by simp [spec_l3Attrs.l0])
  | succ k1 =>
   have H := HA.out
   clear HA
   simp only [spec_l3Attrs.l0] at H
   replace H := itD H
   rcases H with ⟨c2b0, H⟩ | ⟨c2b0, H⟩
   ·replace H := itD H
    rcases H with ⟨c3b0, H⟩ | ⟨c3b0, H⟩
    ·replace H := bA H
     obtain ⟨t302, A4, H⟩ := H
     try dsimp only at H
     replace H := itB H
     rcases H with ⟨rfl, H⟩ | ⟨rfl, H⟩
     ·replace H := bA H
      obtain ⟨t304, A6, H⟩ := H
      try dsimp only at H
      replace H := itB H
      rcases H with ⟨rfl, H⟩ | ⟨rfl, H⟩
      ·replace H := itG H
       rcases H with ⟨c8b0, H⟩ | ⟨c8b0, H⟩
       ·obtain ⟨ji9, hji9⟩ : ∃ j_ : Int, (wrap64 (x3_1 - 1)) = j_ := ⟨_, rfl⟩
        replace H : (if 0 ≤ (ji9) then (if (ji9) < (l0.length : Int) then (if ((Op.bytesLess (((rd_T90 l0 (ji9)).f0).toList) (((rd_T90 l0 x3_1).f0).toList)) = true) then (spec_l3Attrs.l0 k1 l0 (wrap64 (x3_1 + 1))) else (some false)) else (none)) else (none)) = some r := by first | (rw [hji9] at H; exact H) | (simp only [hji9] at H ⊢; exact H)
        (try rw [hji9] at A4)
        (try rw [hji9] at A6)
        have hji9w : (IntKind.i64.wrap (x3_1 - 1)) = ji9 := (i64_w _).trans hji9
        replace H := itD H
        rcases H with ⟨c10b0, H⟩ | ⟨c10b0, H⟩
        ·replace H := itD H
         rcases H with ⟨c11b0, H⟩ | ⟨c11b0, H⟩
         ·by_cases c12 : ((Op.bytesLess (((rd_T90 l0 (ji9)).f0).toList) (((rd_T90 l0 x3_1).f0).toList)) = true)
          ·rw [if_pos c12] at H
           have c12b0 : (Op.bytesLess (((rd_T90 l0 (ji9)).f0).toList) (((rd_T90 l0 x3_1).f0).toList)) = true := c12
           clear c12
           have H' := Aside0.mk H
           clear H
           have p301 : (0 ≤ (x3_1 : Int)) = True := oT
           have q301 : (x3_1 < (l0.length : Int)) = True := oT
           obtain ⟨ad301, e301, hx301_0, hx301_1⟩ := at_T90 HR0.out x3_1 oa oa
           cases e301
           go_wp2_with (first | (go_at_call 132; (with_reducible refine (spec_NameOk.calls k1 ((rd_T90 l0 x3_1).f0) true _ A4.out).mono ?_); rintro e w' ⟨rfl, ⟨nd, rfl⟩⟩; have p303 : (0 ≤ (x3_1 : Int)) = True := oT; have q303 : (x3_1 < (l0.length : Int)) = True := oT; obtain ⟨ad303, e303, hx303_0, hx303_1⟩ := at_T90 HR0.out x3_1 oa oa; obtain rfl : ad301 = ad303 := (by injection e303)) | (go_at_call 94; (with_reducible refine (spec_l1In.calls (((rd_T90 l0 x3_1).f1).size : Int) 1 16 true _ A6.out).mono ?_); rintro e w' ⟨rfl, ⟨nd, rfl⟩⟩; have p305 : (0 ≤ ((ji9) : Int)) = True := oT; have q305 : ((ji9) < (l0.length : Int)) = True := oT; obtain ⟨ad305, e305, hx305_0, hx305_1⟩ := at_T90 HR0.out (ji9) oa oa; obtain rfl : ad301 = ad305 := (by injection e305); have p306 : (0 ≤ (x3_1 : Int)) = True := oT; have q306 : (x3_1 < (l0.length : Int)) = True := oT; obtain ⟨ad306, e306, hx306_0, hx306_1⟩ := at_T90 HR0.out x3_1 oa oa; obtain rfl : ad301 = ad306 := (by injection e306)))
           try (have p303 : 0 ≤ (x3_1 : Int) := oa; have q303 : x3_1 < (l0.length : Int) := oa; obtain ⟨ad303, e303, hx303_0, hx303_1⟩ := at_T90 HR0.out x3_1 p303 q303; obtain rfl : ad301 = ad303 := (by injection e303); replace p303 := eq_true p303; replace q303 := eq_true q303)
           try (have p305 : 0 ≤ ((ji9) : Int) := oa; have q305 : (ji9) < (l0.length : Int) := oa; obtain ⟨ad305, e305, hx305_0, hx305_1⟩ := at_T90 HR0.out (ji9) p305 q305; obtain rfl : ad301 = ad305 := (by injection e305); replace p305 := eq_true p305; replace q305 := eq_true q305; have p306 : 0 ≤ (x3_1 : Int) := oa; have q306 : x3_1 < (l0.length : Int) := oa; obtain ⟨ad306, e306, hx306_0, hx306_1⟩ := at_T90 HR0.out x3_1 p306 q306; obtain rfl : ad301 = ad306 := (by injection e306); replace p306 := eq_true p306; replace q306 := eq_true q306)
           repeat (go_quiet (first | (go_at_call 132; (with_reducible refine (spec_NameOk.calls k1 ((rd_T90 l0 x3_1).f0) true _ A4.out).mono ?_); rintro e w' ⟨rfl, ⟨nd, rfl⟩⟩; exact oQ) | (go_at_call 94; (with_reducible refine (spec_l1In.calls (((rd_T90 l0 x3_1).f1).size : Int) 1 16 true _ A6.out).mono ?_); rintro e w' ⟨rfl, ⟨nd, rfl⟩⟩; exact oQ)); try go_wp2_with (first | (go_at_call 132; (with_reducible refine (spec_NameOk.calls k1 ((rd_T90 l0 x3_1).f0) true _ A4.out).mono ?_); rintro e w' ⟨rfl, ⟨nd, rfl⟩⟩; have p303 : (0 ≤ (x3_1 : Int)) = True := oT; have q303 : (x3_1 < (l0.length : Int)) = True := oT; obtain ⟨ad303, e303, hx303_0, hx303_1⟩ := at_T90 HR0.out x3_1 oa oa; obtain rfl : ad301 = ad303 := (by injection e303)) | (go_at_call 94; (with_reducible refine (spec_l1In.calls (((rd_T90 l0 x3_1).f1).size : Int) 1 16 true _ A6.out).mono ?_); rintro e w' ⟨rfl, ⟨nd, rfl⟩⟩; have p305 : (0 ≤ ((ji9) : Int)) = True := oT; have q305 : ((ji9) < (l0.length : Int)) = True := oT; obtain ⟨ad305, e305, hx305_0, hx305_1⟩ := at_T90 HR0.out (ji9) oa oa; obtain rfl : ad301 = ad305 := (by injection e305); have p306 : (0 ≤ (x3_1 : Int)) = True := oT; have q306 : (x3_1 < (l0.length : Int)) = True := oT; obtain ⟨ad306, e306, hx306_0, hx306_1⟩ := at_T90 HR0.out x3_1 oa oa; obtain rfl : ad301 = ad306 := (by injection e306))))
           go_roundg k1
           case measure => have := HK1.out; omega
           case rel => exact ⟨(wrap64 (x3_1 + 1)), oS, H', ⟨by have := HK1.out; omega⟩, oD⟩
          ·rw [if_neg c12] at H
           have c12b0 : (Op.bytesLess (((rd_T90 l0 (ji9)).f0).toList) (((rd_T90 l0 x3_1).f0).toList)) = false := by simpa using c12
           clear c12
           obtain rfl := Option.some.inj H
           have p301 : (0 ≤ (x3_1 : Int)) = True := oT
           have q301 : (x3_1 < (l0.length : Int)) = True := oT
           obtain ⟨ad301, e301, hx301_0, hx301_1⟩ := at_T90 HR0.out x3_1 oa oa
           cases e301
           go_wp2_with (first | (go_at_call 132; (with_reducible refine (spec_NameOk.calls k1 ((rd_T90 l0 x3_1).f0) true _ A4.out).mono ?_); rintro e w' ⟨rfl, ⟨nd, rfl⟩⟩; have p303 : (0 ≤ (x3_1 : Int)) = True := oT; have q303 : (x3_1 < (l0.length : Int)) = True := oT; obtain ⟨ad303, e303, hx303_0, hx303_1⟩ := at_T90 HR0.out x3_1 oa oa; obtain rfl : ad301 = ad303 := (by injection e303)) | (go_at_call 94; (with_reducible refine (spec_l1In.calls (((rd_T90 l0 x3_1).f1).size : Int) 1 16 true _ A6.out).mono ?_); rintro e w' ⟨rfl, ⟨nd, rfl⟩⟩; have p305 : (0 ≤ ((ji9) : Int)) = True := oT; have q305 : ((ji9) < (l0.length : Int)) = True := oT; obtain ⟨ad305, e305, hx305_0, hx305_1⟩ := at_T90 HR0.out (ji9) oa oa; obtain rfl : ad301 = ad305 := (by injection e305); have p306 : (0 ≤ (x3_1 : Int)) = True := oT; have q306 : (x3_1 < (l0.length : Int)) = True := oT; obtain ⟨ad306, e306, hx306_0, hx306_1⟩ := at_T90 HR0.out x3_1 oa oa; obtain rfl : ad301 = ad306 := (by injection e306)))
           try (have p303 : 0 ≤ (x3_1 : Int) := oa; have q303 : x3_1 < (l0.length : Int) := oa; obtain ⟨ad303, e303, hx303_0, hx303_1⟩ := at_T90 HR0.out x3_1 p303 q303; obtain rfl : ad301 = ad303 := (by injection e303); replace p303 := eq_true p303; replace q303 := eq_true q303)
           try (have p305 : 0 ≤ ((ji9) : Int) := oa; have q305 : (ji9) < (l0.length : Int) := oa; obtain ⟨ad305, e305, hx305_0, hx305_1⟩ := at_T90 HR0.out (ji9) p305 q305; obtain rfl : ad301 = ad305 := (by injection e305); replace p305 := eq_true p305; replace q305 := eq_true q305; have p306 : 0 ≤ (x3_1 : Int) := oa; have q306 : x3_1 < (l0.length : Int) := oa; obtain ⟨ad306, e306, hx306_0, hx306_1⟩ := at_T90 HR0.out x3_1 p306 q306; obtain rfl : ad301 = ad306 := (by injection e306); replace p306 := eq_true p306; replace q306 := eq_true q306)
           repeat (go_quiet (first | (go_at_call 132; (with_reducible refine (spec_NameOk.calls k1 ((rd_T90 l0 x3_1).f0) true _ A4.out).mono ?_); rintro e w' ⟨rfl, ⟨nd, rfl⟩⟩; exact oQ) | (go_at_call 94; (with_reducible refine (spec_l1In.calls (((rd_T90 l0 x3_1).f1).size : Int) 1 16 true _ A6.out).mono ?_); rintro e w' ⟨rfl, ⟨nd, rfl⟩⟩; exact oQ)); try go_wp2_with (first | (go_at_call 132; (with_reducible refine (spec_NameOk.calls k1 ((rd_T90 l0 x3_1).f0) true _ A4.out).mono ?_); rintro e w' ⟨rfl, ⟨nd, rfl⟩⟩; have p303 : (0 ≤ (x3_1 : Int)) = True := oT; have q303 : (x3_1 < (l0.length : Int)) = True := oT; obtain ⟨ad303, e303, hx303_0, hx303_1⟩ := at_T90 HR0.out x3_1 oa oa; obtain rfl : ad301 = ad303 := (by injection e303)) | (go_at_call 94; (with_reducible refine (spec_l1In.calls (((rd_T90 l0 x3_1).f1).size : Int) 1 16 true _ A6.out).mono ?_); rintro e w' ⟨rfl, ⟨nd, rfl⟩⟩; have p305 : (0 ≤ ((ji9) : Int)) = True := oT; have q305 : ((ji9) < (l0.length : Int)) = True := oT; obtain ⟨ad305, e305, hx305_0, hx305_1⟩ := at_T90 HR0.out (ji9) oa oa; obtain rfl : ad301 = ad305 := (by injection e305); have p306 : (0 ≤ (x3_1 : Int)) = True := oT; have q306 : (x3_1 < (l0.length : Int)) = True := oT; obtain ⟨ad306, e306, hx306_0, hx306_1⟩ := at_T90 HR0.out x3_1 oa oa; obtain rfl : ad301 = ad306 := (by injection e306))))
           go_ret
           exact ⟨by first | rfl | (simp; done) | (simp only [← hji9] <;> (first | rfl | simp)) | (simp [*]; done), oD⟩
         ·cases H
        ·cases H
       ·have H' := Aside0.mk H
        clear H
        have p301 : (0 ≤ (x3_1 : Int)) = True := oT
        have q301 : (x3_1 < (l0.length : Int)) = True := oT
        obtain ⟨ad301, e301, hx301_0, hx301_1⟩ := at_T90 HR0.out x3_1 oa oa
        cases e301
        go_wp2_with (first | (go_at_call 132; (with_reducible refine (spec_NameOk.calls k1 ((rd_T90 l0 x3_1).f0) true _ A4.out).mono ?_); rintro e w' ⟨rfl, ⟨nd, rfl⟩⟩; have p303 : (0 ≤ (x3_1 : Int)) = True := oT; have q303 : (x3_1 < (l0.length : Int)) = True := oT; obtain ⟨ad303, e303, hx303_0, hx303_1⟩ := at_T90 HR0.out x3_1 oa oa; obtain rfl : ad301 = ad303 := (by injection e303)) | (go_at_call 94; (with_reducible refine (spec_l1In.calls (((rd_T90 l0 x3_1).f1).size : Int) 1 16 true _ A6.out).mono ?_); rintro e w' ⟨rfl, ⟨nd, rfl⟩⟩))
        try (have p303 : 0 ≤ (x3_1 : Int) := oa; have q303 : x3_1 < (l0.length : Int) := oa; obtain ⟨ad303, e303, hx303_0, hx303_1⟩ := at_T90 HR0.out x3_1 p303 q303; obtain rfl : ad301 = ad303 := (by injection e303); replace p303 := eq_true p303; replace q303 := eq_true q303)
        repeat (go_quiet (first | (go_at_call 132; (with_reducible refine (spec_NameOk.calls k1 ((rd_T90 l0 x3_1).f0) true _ A4.out).mono ?_); rintro e w' ⟨rfl, ⟨nd, rfl⟩⟩; exact oQ) | (go_at_call 94; (with_reducible refine (spec_l1In.calls (((rd_T90 l0 x3_1).f1).size : Int) 1 16 true _ A6.out).mono ?_); rintro e w' ⟨rfl, ⟨nd, rfl⟩⟩; exact oQ)); try go_wp2_with (first | (go_at_call 132; (with_reducible refine (spec_NameOk.calls k1 ((rd_T90 l0 x3_1).f0) true _ A4.out).mono ?_); rintro e w' ⟨rfl, ⟨nd, rfl⟩⟩; have p303 : (0 ≤ (x3_1 : Int)) = True := oT; have q303 : (x3_1 < (l0.length : Int)) = True := oT; obtain ⟨ad303, e303, hx303_0, hx303_1⟩ := at_T90 HR0.out x3_1 oa oa; obtain rfl : ad301 = ad303 := (by injection e303)) | (go_at_call 94; (with_reducible refine (spec_l1In.calls (((rd_T90 l0 x3_1).f1).size : Int) 1 16 true _ A6.out).mono ?_); rintro e w' ⟨rfl, ⟨nd, rfl⟩⟩)))
        go_roundg k1
        case measure => have := HK1.out; omega
        case rel => exact ⟨(wrap64 (x3_1 + 1)), oS, H', ⟨by have := HK1.out; omega⟩, oD⟩
      ·obtain rfl := Option.some.inj H
       have p301 : (0 ≤ (x3_1 : Int)) = True := oT
       have q301 : (x3_1 < (l0.length : Int)) = True := oT
       obtain ⟨ad301, e301, hx301_0, hx301_1⟩ := at_T90 HR0.out x3_1 oa oa
       cases e301
       go_wp2_with (first | (go_at_call 132; (with_reducible refine (spec_NameOk.calls k1 ((rd_T90 l0 x3_1).f0) true _ A4.out).mono ?_); rintro e w' ⟨rfl, ⟨nd, rfl⟩⟩; have p303 : (0 ≤ (x3_1 : Int)) = True := oT; have q303 : (x3_1 < (l0.length : Int)) = True := oT; obtain ⟨ad303, e303, hx303_0, hx303_1⟩ := at_T90 HR0.out x3_1 oa oa; obtain rfl : ad301 = ad303 := (by injection e303)) | (go_at_call 94; (with_reducible refine (spec_l1In.calls (((rd_T90 l0 x3_1).f1).size : Int) 1 16 false _ A6.out).mono ?_); rintro e w' ⟨rfl, ⟨nd, rfl⟩⟩))
       try (have p303 : 0 ≤ (x3_1 : Int) := oa; have q303 : x3_1 < (l0.length : Int) := oa; obtain ⟨ad303, e303, hx303_0, hx303_1⟩ := at_T90 HR0.out x3_1 p303 q303; obtain rfl : ad301 = ad303 := (by injection e303); replace p303 := eq_true p303; replace q303 := eq_true q303)
       repeat (go_quiet (first | (go_at_call 132; (with_reducible refine (spec_NameOk.calls k1 ((rd_T90 l0 x3_1).f0) true _ A4.out).mono ?_); rintro e w' ⟨rfl, ⟨nd, rfl⟩⟩; exact oQ) | (go_at_call 94; (with_reducible refine (spec_l1In.calls (((rd_T90 l0 x3_1).f1).size : Int) 1 16 false _ A6.out).mono ?_); rintro e w' ⟨rfl, ⟨nd, rfl⟩⟩; exact oQ)); try go_wp2_with (first | (go_at_call 132; (with_reducible refine (spec_NameOk.calls k1 ((rd_T90 l0 x3_1).f0) true _ A4.out).mono ?_); rintro e w' ⟨rfl, ⟨nd, rfl⟩⟩; have p303 : (0 ≤ (x3_1 : Int)) = True := oT; have q303 : (x3_1 < (l0.length : Int)) = True := oT; obtain ⟨ad303, e303, hx303_0, hx303_1⟩ := at_T90 HR0.out x3_1 oa oa; obtain rfl : ad301 = ad303 := (by injection e303)) | (go_at_call 94; (with_reducible refine (spec_l1In.calls (((rd_T90 l0 x3_1).f1).size : Int) 1 16 false _ A6.out).mono ?_); rintro e w' ⟨rfl, ⟨nd, rfl⟩⟩)))
       go_ret
       exact ⟨oS, oD⟩
     ·obtain rfl := Option.some.inj H
      have p301 : (0 ≤ (x3_1 : Int)) = True := oT
      have q301 : (x3_1 < (l0.length : Int)) = True := oT
      obtain ⟨ad301, e301, hx301_0, hx301_1⟩ := at_T90 HR0.out x3_1 oa oa
      cases e301
      go_wp2_with (first | (go_at_call 132; (with_reducible refine (spec_NameOk.calls k1 ((rd_T90 l0 x3_1).f0) false _ A4.out).mono ?_); rintro e w' ⟨rfl, ⟨nd, rfl⟩⟩))
      repeat (go_quiet (first | (go_at_call 132; (with_reducible refine (spec_NameOk.calls k1 ((rd_T90 l0 x3_1).f0) false _ A4.out).mono ?_); rintro e w' ⟨rfl, ⟨nd, rfl⟩⟩; exact oQ)); try go_wp2_with (first | (go_at_call 132; (with_reducible refine (spec_NameOk.calls k1 ((rd_T90 l0 x3_1).f0) false _ A4.out).mono ?_); rintro e w' ⟨rfl, ⟨nd, rfl⟩⟩)))
      go_ret
      exact ⟨oS, oD⟩
    ·cases H
   ·obtain rfl := Option.some.inj H
    go_wp2
    repeat (go_quiet (fail); try go_wp2)
    go_ret
    exact ⟨oS, oD⟩

/-! ### spec_InodeOk: function 95 -/
def spec_InodeOk.j0 : Nat → Bool → Int → Int → Int → List Int → List (S82) → List (S90) → Option (Bool)
 | 0, _, _, _, _, _, _, _ => none
 | k + 1, x39, x308000, x308001, x308002, x308003, x308004, x308005 => if x39 = true then (some false) else (if x308001 = 1 then (some ((x308004.length : Int) == 0)) else (if x308001 = 2 then (if (x308003.length : Int) = 0 then (some (decide (x308002 ≤ 1))) else (some false)) else (some false)))
def spec_InodeOk.f (k : Nat) (a0_0 : Int) (a0_1 : Int) (a0_2 : Int) (l0_3 : List Int) (l0_4 : List (S82)) (l0_5 : List (S90)) : Option (Bool) := (spec_l1In.f a0_0 1 1000).bind fun t308 => (if t308 = true then ((spec_l1In.f a0_2 0 1000).bind fun t309 => (if t309 = true then (if ((a0_2 == 0) != (a0_0 == 1)) = true then (spec_InodeOk.j0 k true a0_0 a0_1 a0_2 l0_3 l0_4 l0_5) else (if (l0_3.length : Int) > 100 then (spec_InodeOk.j0 k true a0_0 a0_1 a0_2 l0_3 l0_4 l0_5) else ((spec_l3Ents.f k l0_4).bind fun t310 => (if t310 = true then ((spec_l3Attrs.f k l0_5).bind fun t311 => (spec_InodeOk.j0 k (!t311) a0_0 a0_1 a0_2 l0_3 l0_4 l0_5)) else (spec_InodeOk.j0 k true a0_0 a0_1 a0_2 l0_3 l0_4 l0_5))))) else (spec_InodeOk.j0 k true a0_0 a0_1 a0_2 l0_3 l0_4 l0_5))) else (spec_InodeOk.j0 k true a0_0 a0_1 a0_2 l0_3 l0_4 l0_5))
set_option maxHeartbeats 8000000 in
set_option maxRecDepth 100000 in
theorem spec_InodeOk.calls (k : Nat) (a0_0 : Int) (a0_1 : Int) (a0_2 : Int) (A0_3 : Option Addr) (c0_3 : Nat) (l0_3 : List Int) (A0_4 : Option Addr) (c0_4 : Nat) (l0_4 : List (S82)) (A0_5 : Option Addr) (c0_5 : Nat) (l0_5 : List (S90)) (r : Bool) (w : World) (hr0_3 : Kd.C (Kd.int .u8) w A0_3 l0_3.length l0_3) (hc0_3 : l0_3.length ≤ c0_3) (hr0_4 : Kd.C k82 w A0_4 l0_4.length l0_4) (hc0_4 : l0_4.length ≤ c0_4) (hr0_5 : Kd.C k90 w A0_5 l0_5.length l0_5) (hc0_5 : l0_5.length ≤ c0_5) (h : spec_InodeOk.f k a0_0 a0_1 a0_2 l0_3 l0_4 l0_5 = some r) :
  Calls Try.prog 95 #[.agg #[.int .i64 a0_0, .int .i64 a0_1, .int .i64 a0_2, .slice A0_3 l0_3.length c0_3, .slice A0_4 l0_4.length c0_4, .slice A0_5 l0_5.length c0_5]] w fun e w' => e = .returned (.bool r) ∧ Below w.heap.size w w' := by
 have hu40 := Try.underlying40
 have HR0_3 := Aside0.mk hr0_3
 have HC0_3 := Aside0.mk hc0_3
 clear hr0_3 hc0_3
 have HR0_4 := Aside0.mk hr0_4
 have HC0_4 := Aside0.mk hc0_4
 clear hr0_4 hc0_4
 have HR0_5 := Aside0.mk hr0_5
 have HC0_5 := Aside0.mk hc0_5
 clear hr0_5 hc0_5
 have HB := Aside0.mk (Below.refl w.heap.size w)
 unfold spec_InodeOk.f at h
 have H := h
 clear h
 have HC2 := Aside0.mk H
 clear H
 go_enter Try.func95, Try.ntmps95
 go_upto_region 1 with (first | ((with_reducible refine gate_dst (N := 1) rfl ?_); (try (refine gate_guard (by rfl) ?_; dsimp only)); refine bx_ 1 #[.int .i64 a0_0, .int .i64 a0_1, .int .i64 a0_2, .slice A0_3 l0_3.length c0_3, .slice A0_4 l0_4.length c0_4, .slice A0_5 l0_5.length c0_5] 40 ?_; intro gb307 hg w3 hbox hb; have BK307 := Aside0.mk (hbox); have GW307 := gs_ hg; replace HB := Aside0.mk (below_step oB hb); clear hb hbox hg))
 (try simp only [Act.put, List.setIfInBounds_toArray, List.set_cons_zero, List.set_cons_succ])
 go_cut [39] (fun v39 wc => ∃ (kq : Nat) (x39_1 : Bool), v39 = .bool x39_1 ∧ Aside0 (spec_InodeOk.j0 kq x39_1 a0_0 a0_1 a0_2 l0_3 l0_4 l0_5 = some r) ∧ Aside0 (kq ≤ k) ∧ Aside0 (wc.heap[gb307]? = some (.cells #[.int .i64 a0_0, .int .i64 a0_1, .int .i64 a0_2, (.slice A0_3 l0_3.length c0_3), (.slice A0_4 l0_4.length c0_4), (.slice A0_5 l0_5.length c0_5)] 40 (0, 0))) ∧ Aside0 (Below w.heap.size w wc))
 case first =>
  have H := HC2.out
  clear HC2
  replace H := bA H
  obtain ⟨t308, A4, H⟩ := H
  try dsimp only at H
  replace H := itB H
  rcases H with ⟨rfl, H⟩ | ⟨rfl, H⟩
  ·replace H := bA H
   obtain ⟨t309, A6, H⟩ := H
   try dsimp only at H
   replace H := itB H
   rcases H with ⟨rfl, H⟩ | ⟨rfl, H⟩
   ·by_cases c8 : ((a0_2 == 0) != (a0_0 == 1)) = true
    ·rw [if_pos c8] at H
     have c8b0 : ((a0_2 == 0) != (a0_0 == 1)) = true := c8
     (try (have c8b1 : decide ((a0_2 == 0) = (a0_0 == 1)) = false := by simpa using c8))
     (try (have c8b2 : ((a0_2 == 0) == (a0_0 == 1)) = false := by simpa using c8))
     (try (have c8b3 : ¬ ((a0_2 == 0) = (a0_0 == 1)) := by simpa using c8))
     clear c8
     (first | rw [c8b0] | rw [c8b2] | (simp only [i64_w, i32_w]; rw [c8b0]) | skip)
     have H' := Aside0.mk H
     clear H
     obtain ⟨⟨_, _, _, _, _, _⟩, _, _, _, _, _, _⟩ := z6 BK307
     go_wp2_with (first | ((with_reducible refine gate_callee (f := 94) rfl ?_); refine gl_ 5 Try.func94 (spec_l1In.calls a0_0 1 1000 true _ A4.out) ?_; rintro e w' ⟨rfl, ⟨nd, rfl⟩⟩; refine ⟨_, rfl, ?_⟩) | (go_at_call 94; (with_reducible refine (spec_l1In.calls a0_2 0 1000 true _ A6.out).mono ?_); rintro e w' ⟨rfl, ⟨nd, rfl⟩⟩))
     go_meet
     case rel => exact ⟨_, (true), oS, H', ⟨by first | omega | exact Nat.le_refl _⟩, ⟨oF BK307⟩, ⟨oB⟩⟩
    ·rw [if_neg c8] at H
     have c8b0 : ((a0_2 == 0) != (a0_0 == 1)) = false := by simpa using c8
     (try (have c8b1 : decide ((a0_2 == 0) = (a0_0 == 1)) = true := by simpa using c8))
     (try (have c8b2 : ((a0_2 == 0) == (a0_0 == 1)) = true := by simpa using c8))
     clear c8
     (first | rw [c8b0] | rw [c8b2] | (simp only [i64_w, i32_w]; rw [c8b0]) | skip)
     by_cases c10 : (l0_3.length : Int) > 100
     ·rw [if_pos c10] at H
      have c10b0 : decide (100 < (l0_3.length : Int)) = true := decide_eq_true c10
      have c10b1 : decide (100 < l0_3.length) = true := decide_eq_true (by omega)
      clear c10
      have H' := Aside0.mk H
      clear H
      obtain ⟨⟨_, _, _, _, _, _⟩, _, _, _, _, _, _⟩ := z6 BK307
      go_wp2_with (first | ((with_reducible refine gate_callee (f := 94) rfl ?_); refine gl_ 5 Try.func94 (spec_l1In.calls a0_0 1 1000 true _ A4.out) ?_; rintro e w' ⟨rfl, ⟨nd, rfl⟩⟩; refine ⟨_, rfl, ?_⟩) | (go_at_call 94; (with_reducible refine (spec_l1In.calls a0_2 0 1000 true _ A6.out).mono ?_); rintro e w' ⟨rfl, ⟨nd, rfl⟩⟩))
      go_meet
      case rel => exact ⟨_, (true), oS, H', ⟨by first | omega | exact Nat.le_refl _⟩, ⟨oF BK307⟩, ⟨oB⟩⟩
     ·rw [if_neg c10] at H
      have c10b0 : decide (100 < (l0_3.length : Int)) = false := decide_eq_false c10
      have c10b1 : decide (100 < l0_3.length) = false := decide_eq_false (by omega)
      clear c10
      replace H := bA H
      obtain ⟨t310, A12, H⟩ := H
      try dsimp only at H
      replace H := itB H
      rcases H with ⟨rfl, H⟩ | ⟨rfl, H⟩
      ·replace H := bA H
       obtain ⟨t311, A14, H⟩ := H
       try dsimp only at H
       have H' := Aside0.mk H
       clear H
       obtain ⟨⟨_, _, _, _, _, _⟩, _, _, _, _, _, _⟩ := z6 BK307
       go_wp2_with (first | ((with_reducible refine gate_callee (f := 94) rfl ?_); refine gl_ 5 Try.func94 (spec_l1In.calls a0_0 1 1000 true _ A4.out) ?_; rintro e w' ⟨rfl, ⟨nd, rfl⟩⟩; refine ⟨_, rfl, ?_⟩) | (go_at_call 94; (with_reducible refine (spec_l1In.calls a0_2 0 1000 true _ A6.out).mono ?_); rintro e w' ⟨rfl, ⟨nd, rfl⟩⟩) | (go_at_call 116; (with_reducible refine (spec_l3Ents.calls k _ _ l0_4 true _ (kC HR0_4) HC0_4.out A12.out).mono ?_); rintro e w' ⟨rfl, ⟨nd, rfl⟩⟩) | (go_at_call 117; (with_reducible refine (spec_l3Attrs.calls k _ _ l0_5 t311 _ (kC HR0_5) HC0_5.out A14.out).mono ?_); rintro e w' ⟨rfl, ⟨nd, rfl⟩⟩))
       go_meet
       case rel => exact ⟨_, (!t311), oS, H', ⟨by first | omega | exact Nat.le_refl _⟩, ⟨oF BK307⟩, ⟨oB⟩⟩
      ·have H' := Aside0.mk H
       clear H
       obtain ⟨⟨_, _, _, _, _, _⟩, _, _, _, _, _, _⟩ := z6 BK307
       go_wp2_with (first | ((with_reducible refine gate_callee (f := 94) rfl ?_); refine gl_ 5 Try.func94 (spec_l1In.calls a0_0 1 1000 true _ A4.out) ?_; rintro e w' ⟨rfl, ⟨nd, rfl⟩⟩; refine ⟨_, rfl, ?_⟩) | (go_at_call 94; (with_reducible refine (spec_l1In.calls a0_2 0 1000 true _ A6.out).mono ?_); rintro e w' ⟨rfl, ⟨nd, rfl⟩⟩) | (go_at_call 116; (with_reducible refine (spec_l3Ents.calls k _ _ l0_4 false _ (kC HR0_4) HC0_4.out A12.out).mono ?_); rintro e w' ⟨rfl, ⟨nd, rfl⟩⟩))
       go_meet
       case rel => exact ⟨_, (true), oS, H', ⟨by first | omega | exact Nat.le_refl _⟩, ⟨oF BK307⟩, ⟨oB⟩⟩
   ·have H' := Aside0.mk H
    clear H
    obtain ⟨⟨_, _, _, _, _, _⟩, _, _, _, _, _, _⟩ := z6 BK307
    go_wp2_with (first | ((with_reducible refine gate_callee (f := 94) rfl ?_); refine gl_ 5 Try.func94 (spec_l1In.calls a0_0 1 1000 true _ A4.out) ?_; rintro e w' ⟨rfl, ⟨nd, rfl⟩⟩; refine ⟨_, rfl, ?_⟩) | (go_at_call 94; (with_reducible refine (spec_l1In.calls a0_2 0 1000 false _ A6.out).mono ?_); rintro e w' ⟨rfl, ⟨nd, rfl⟩⟩))
    go_meet
    case rel => exact ⟨_, (true), oS, H', ⟨by first | omega | exact Nat.le_refl _⟩, ⟨oF BK307⟩, ⟨oB⟩⟩
  ·have H' := Aside0.mk H
   clear H
   obtain ⟨⟨_, _, _, _, _, _⟩, _, _, _, _, _, _⟩ := z6 BK307
   go_wp2_with (first | ((with_reducible refine gate_callee (f := 94) rfl ?_); refine gl_ 5 Try.func94 (spec_l1In.calls a0_0 1 1000 false _ A4.out) ?_; rintro e w' ⟨rfl, ⟨nd, rfl⟩⟩; refine ⟨_, rfl, ?_⟩))
   go_meet
   case rel => exact ⟨_, (true), oS, H', ⟨by first | omega | exact Nat.le_refl _⟩, ⟨oF BK307⟩, ⟨oB⟩⟩
 case rest =>
  clear HC2
  obtain ⟨kq, x39_1, rfl, HA, HJ1, BK307, HB⟩ := hcut
  cases kq with
  | zero => exact absurd HA.out (by simp [spec_InodeOk.j0])
  | succ kj1 =>
   have H := HA.out
   clear HA
   simp only [spec_InodeOk.j0] at H
   replace H := itB H
   rcases H with ⟨rfl, H⟩ | ⟨rfl, H⟩
   ·obtain rfl := Option.some.inj H
    go_wp2
    go_ret
    exact ⟨oE, oB⟩
   ·by_cases c20 : a0_1 = 1
    ·rw [if_pos c20] at H
     have c20b0 : (a0_1 == 1) = true := beq_iff_eq.mpr c20
     have c20b1 : (a0_1 != 1) = false := bne_eq_false_iff_eq.mpr c20
     clear c20
     obtain rfl := Option.some.inj H
     obtain ⟨⟨_, _, _, _, _, _⟩, _, _, _, _, _, _⟩ := z6 BK307
     go_wp2
     go_ret
     exact ⟨oE, oB⟩
    ·rw [if_neg c20] at H
     have c20b0 : (a0_1 == 1) = false := beq_eq_false_iff_ne.mpr c20
     have c20b1 : (a0_1 != 1) = true := bne_iff_ne.mpr c20
     by_cases c22 : a0_1 = 2
     ·rw [if_pos c22] at H
      have c22b0 : (a0_1 == 2) = true := beq_iff_eq.mpr c22
      have c22b1 : (a0_1 != 2) = false := bne_eq_false_iff_eq.mpr c22
      clear c22
      by_cases c23 : (l0_3.length : Int) = 0
      ·rw [if_pos c23] at H
       have c23b0 : ((l0_3.length : Int) == 0) = true := beq_iff_eq.mpr c23
       have c23b1 : ((l0_3.length : Int) != 0) = false := bne_eq_false_iff_eq.mpr c23
       clear c23
       obtain rfl := Option.some.inj H
       obtain ⟨⟨_, _, _, _, _, _⟩, _, _, _, _, _, _⟩ := z6 BK307
       go_wp2
       go_ret
       exact ⟨oE, oB⟩
      ·rw [if_neg c23] at H
       have c23b0 : ((l0_3.length : Int) == 0) = false := beq_eq_false_iff_ne.mpr c23
       have c23b1 : ((l0_3.length : Int) != 0) = true := bne_iff_ne.mpr c23
       have c23b2 : ¬ (l0_3 = []) := fun h_ => c23 (by rw [h_]; rfl)
       obtain rfl := Option.some.inj H
       obtain ⟨⟨_, _, _, _, _, _⟩, _, _, _, _, _, _⟩ := z6 BK307
       go_wp2
       go_ret
       exact ⟨oE, oB⟩
     ·rw [if_neg c22] at H
      have c22b0 : (a0_1 == 2) = false := beq_eq_false_iff_ne.mpr c22
      have c22b1 : (a0_1 != 2) = true := bne_iff_ne.mpr c22
      obtain rfl := Option.some.inj H
      obtain ⟨⟨_, _, _, _, _, _⟩, _, _, _, _, _, _⟩ := z6 BK307
      go_wp2
      go_ret
      exact ⟨oE, oB⟩

end Go.Proofs.Ytmndnegpclaidaa.P
