-- By this session's own program (wip/myprint.py) out of the translation; Lean checks it.
import Derived.Test.YtmndnegpclaidaaPx0
import Derived.Test.YtmndnegpclaidaaPx1
import Derived.Test.YtmndnegpclaidaaPx2
import Derived.Test.YtmndnegpclaidaaPx3
namespace Go.Proofs.Ytmndnegpclaidaa.P
open Go.RowKit Go.Proofs.YtmndnegpclaidaaW.PrintWords Go.Proofs.YtmndnegpclaidaaW.PrintLast Go.Proofs.YtmndnegpclaidaaW.PrintMore
attribute [local go_sem] max2_int min2_int max_two min_two max_three min_three max_four min_four   -- for this text's walks alone
set_option linter.unusedVariables false
set_option linter.unusedSimpArgs false

/-! ### impl_Reached: function 19 -/
mutual
def impl_Reached.l0 : Nat → List Int → List Int → List (S40) → Int → Option (List Int)
 | 0, _, _, _, _ => none
 | k + 1, x3, x4, x349000, x349001 => if (x4.length : Int) > 0 then (if 0 < (x4.length : Int) then (if 1 ≤ (x4.length : Int) then ((some (x4.drop (1 : Int).toNat : List Int)).bind fun y356 => ((impl_InodeAt.f k x349000 x349001 (rd x4 0)).bind fun bt359 => (if bt359.2.2.2.2.2.2 = true then ((slices_Contains_int_int.f x3 (rd x4 0)).bind fun t373 => (impl_Reached.j1 k x3 y356 (rd x4 0) t373 x349000 x349001 bt359.1 bt359.2.1 bt359.2.2.1 bt359.2.2.2.1 bt359.2.2.2.2.1 bt359.2.2.2.2.2.1)) else (impl_Reached.j1 k x3 y356 (rd x4 0) true x349000 x349001 bt359.1 bt359.2.1 bt359.2.2.1 bt359.2.2.2.1 bt359.2.2.2.2.1 bt359.2.2.2.2.2.1)))) else (none)) else (none)) else (if x3.length < 4611686018427387904 then some (sortI x3) else none)
def impl_Reached.j1 : Nat → List Int → List Int → Int → Bool → List (S40) → Int → Int → Int → Int → List Int → List (S82) → List (S90) → Option (List Int)
 | 0, _, _, _, _, _, _, _, _, _, _, _, _ => none
 | k + 1, x3, x4, x5, x32, x349000, x349001, x373000, x373001, x373002, x373003, x373004, x373005 => if x32 = true then (impl_Reached.l0 k x3 x4 x349000 x349001) else (if x3.length < 17592186044416 then ((some (x3 ++ [x5] : List Int)).bind fun y374 => (if x373001 = 2 then (impl_Reached.l1 k y374 x4 x373004 (x373004.length : Int) 0 x349000 x349001) else (impl_Reached.l0 k y374 x4 x349000 x349001))) else (none))
def impl_Reached.l1 : Nat → List Int → List Int → List (S82) → Int → Int → List (S40) → Int → Option (List Int)
 | 0, _, _, _, _, _, _, _ => none
 | k + 1, x3, x4, x41, x42, x43, x349000, x349001 => if x43 < x42 then (if 0 ≤ x43 then (if x43 < (x41.length : Int) then (if x4.length < 17592186044416 then (impl_Reached.l1 k x3 (x4 ++ [(rd_T82 x41 x43).f1]) x41 x42 (wrap64 (x43 + 1)) x349000 x349001) else (none)) else (none)) else (none)) else (impl_Reached.l0 k x3 x4 x349000 x349001)
end
def impl_Reached.f (k : Nat) (l0_0 : List (S40)) (a0_1 : Int) : Option (List Int) := impl_Reached.l0 k (([] : List Int)) (([1] : List Int)) l0_0 a0_1
set_option maxHeartbeats 8000000 in
set_option maxRecDepth 100000 in
theorem impl_Reached.calls (k : Nat) (A0_0 : Option Addr) (c0_0 : Nat) (l0_0 : List (S40)) (a0_1 : Int) (r : List Int) (w : World) (hr0_0 : Kd.C k40 w A0_0 l0_0.length l0_0) (hc0_0 : l0_0.length ≤ c0_0) (h : impl_Reached.f k l0_0 a0_1 = some r) :
  Calls Try.prog 19 #[.agg #[.slice A0_0 l0_0.length c0_0, .int .i64 a0_1]] w fun e w' => ∃ v0_ : Value, e = .returned (v0_) ∧ Kd.R (Kd.int .i64) 3 w' w.heap.size (fun _ => True) v0_ r ∧ Below w.heap.size w w' := by
 have hu34 := Try.underlying34
 have hu40 := Try.underlying40
 have hu82 := Try.underlying82
 have HR0_0 := Aside0.mk hr0_0
 have HC0_0 := Aside0.mk hc0_0
 clear hr0_0 hc0_0
 have HB := Aside0.mk (Below.refl w.heap.size w)
 unfold impl_Reached.f at h
 have H := h
 clear h
 obtain ⟨y349, hy349⟩ : ∃ y_ : List Int, y_ = (([] : List Int)) := ⟨_, rfl⟩
 replace H : (impl_Reached.l0 k y349 (([1] : List Int)) l0_0 a0_1) = some r := by first | (rw [hy349]; with_reducible exact H) | (have H2_ := (Option.bind_some _ _).symm.trans H; rw [hy349]; with_reducible exact H2_) | (have H2_ := (Option.bind_some _ _).symm.trans H; with_reducible exact H2_) | with_reducible exact H | (rw [hy349]; exact H) | exact H
 have Ny349 := Aside0.mk hy349
 clear hy349
 obtain ⟨y352, hy352⟩ : ∃ y_ : List Int, y_ = (([1] : List Int)) := ⟨_, rfl⟩
 replace H : (impl_Reached.l0 k y349 y352 l0_0 a0_1) = some r := by first | (rw [hy352]; with_reducible exact H) | (have H2_ := (Option.bind_some _ _).symm.trans H; rw [hy352]; with_reducible exact H2_) | (have H2_ := (Option.bind_some _ _).symm.trans H; with_reducible exact H2_) | with_reducible exact H | (rw [hy352]; exact H) | exact H
 have Ny352 := Aside0.mk hy352
 clear hy352
 have H' := Aside0.mk H
 clear H
 go_enter Try.func19, Try.ntmps19
 go_wp2_with (first | ((with_reducible refine gate_dst (N := 1) rfl ?_); refine bx_ 1 #[.slice A0_0 l0_0.length c0_0, .int .i64 a0_1] 34 ?_; intro gb348 hg w2 hbox hb; have BK348 := Aside0.mk (hbox); have GW348 := gs_ hg; have GE348 := gs_ hg; replace HB := Aside0.mk (below_step oB hb); clear hb hbox hg) | ((with_reducible refine gate_dst (N := 10) rfl ?_); refine Kd.R_lit (Kd.int .i64) _ 3 ?hg (N := 10) ?hd (xs := ([] : List Int)) (inner := []) (ok := fun _ => True) (okp := fun _ => True) ?hr ?hp (fun _ hk => hk) trivial (Below.refl _ _) (Nat.le_refl _) (by simp) ?_; (case hd => rfl); (case hg => rfl); (case hr => first | (go_simp; done) | (go_simp; rfl)); (case hp => exact (Reps.none _ _)); intro v350 w3 ho4 hb hg_ hnew_; clear hg_ hnew_; (first | rw [← Ny349.out] at ho4 | (simp only [Int.reduceToNat] at ho4; rw [← Ny349.out] at ho4)); have HO351 := Aside0.mk (Kd.R_lower ho4 (below_size oB)); replace BK348 := kb_ BK348 hb; replace HB := Aside0.mk (below_step oB hb); clear hb ho4) | ((with_reducible refine gate_dst (N := 11) rfl ?_); refine Kd.R_lit (Kd.int .i64) _ 3 ?hg (N := 11) ?hd (xs := ([1] : List Int)) (inner := [.int .i64 1]) (ok := fun _ => True) (okp := fun _ => True) ?hr ?hp (fun _ hk => hk) trivial (Below.refl _ _) (Nat.le_refl _) (by simp) ?_; (case hd => rfl); (case hg => rfl); (case hr => first | (go_simp; done) | (go_simp; rfl)); (case hp => exact (Reps.one (show Kd.M (Kd.int .i64) _ _ _ 1 [.int .i64 1] from rfl) (Reps.none _ _))); intro v353 w5 ho6 hb hg_ hnew_; clear hg_ hnew_; (first | rw [← Ny352.out] at ho6 | (simp only [Int.reduceToNat] at ho6; rw [← Ny352.out] at ho6)); have HO354 := Aside0.mk (Kd.R_lower (Kd.R_new' ho6 (kl_ HO351)) (below_size oB)); replace HO351 := ke_ HO351 ho6 hb; replace BK348 := kb_ BK348 hb; replace HB := Aside0.mk (below_step oB hb); clear hb ho6))
 go_loopg [3, 4] k (fun kq v3 v4 w' => ∃ (x3_1 : List Int) (x4_1 : List Int), Aside0 (impl_Reached.l0 kq x3_1 x4_1 l0_0 a0_1 = some r) ∧ Aside0 (kq ≤ k) ∧ Aside0 (Kd.R (Kd.int .i64) 3 w' w.heap.size (fun k_ => some k_ ≠ (v4 : Value).ownBlock) v3 x3_1) ∧ Aside0 (Kd.Q (Kd.int .i64) 3 w' w.heap.size (fun k_ => some k_ ≠ (v3 : Value).ownBlock) v4 x4_1) ∧ Aside0 (w'.heap[gb348]? = some (.cells #[(.slice A0_0 l0_0.length c0_0), .int .i64 a0_1] 34 (0, 0))) ∧ Aside0 (Below w.heap.size w w'))
 case atStart => exact ⟨(y349), (y352), H', ⟨Nat.le_refl _⟩, ⟨by (with_reducible repeat (first | apply Kd.R_alloc | apply Kd.R_drewN | apply Kd.R_drew)); exact Kd.R_mono HO351.out (fun _ hk => hk.2)⟩, ⟨Kd.Q_of_R (by (with_reducible repeat (first | apply Kd.R_alloc | apply Kd.R_drewN | apply Kd.R_drew)); exact Kd.R_mono HO354.out (fun _ hk => hk.2))⟩, ⟨oF BK348⟩, ⟨oB⟩⟩
 case round =>
  clear H'
  obtain ⟨x3_1, x4_1, HA, HK1, HO_3, HO_4, BK348, HB⟩ := hrel
  cases gk with
  | zero => exact absurd HA.out (by simp [impl_Reached.l0])
  | succ k1 =>
   have H := HA.out
   clear HA
   simp only [impl_Reached.l0] at H
   by_cases c7 : (x4_1.length : Int) > 0
   ·rw [if_pos c7] at H
    have c7b0 : decide (0 < (x4_1.length : Int)) = true := decide_eq_true c7
    have c7b1 : decide (0 < x4_1.length) = true := decide_eq_true (by omega)
    clear c7
    by_cases c8 : 0 < (x4_1.length : Int)
    ·rw [if_pos c8] at H
     have c8b0 : decide (0 < (x4_1.length : Int)) = true := decide_eq_true c8
     have c8b1 : decide (0 < x4_1.length) = true := decide_eq_true (by omega)
     clear c8
     by_cases c9 : 1 ≤ (x4_1.length : Int)
     ·rw [if_pos c9] at H
      have c9b0 := eq_true c9
      have c9b1 : decide (1 ≤ (x4_1.length : Int)) = true := decide_eq_true c9
      clear c9
      obtain ⟨y356, hy356⟩ : ∃ y_ : List Int, y_ = (x4_1.drop (1 : Int).toNat) := ⟨_, rfl⟩
      replace H : ((impl_InodeAt.f k1 l0_0 a0_1 (rd x4_1 0)).bind fun bt359 => (if bt359.2.2.2.2.2.2 = true then ((slices_Contains_int_int.f x3_1 (rd x4_1 0)).bind fun t373 => (impl_Reached.j1 k1 x3_1 y356 (rd x4_1 0) t373 l0_0 a0_1 bt359.1 bt359.2.1 bt359.2.2.1 bt359.2.2.2.1 bt359.2.2.2.2.1 bt359.2.2.2.2.2.1)) else (impl_Reached.j1 k1 x3_1 y356 (rd x4_1 0) true l0_0 a0_1 bt359.1 bt359.2.1 bt359.2.2.1 bt359.2.2.2.1 bt359.2.2.2.2.1 bt359.2.2.2.2.2.1))) = some r := by first | (rw [hy356]; with_reducible exact H) | (have H2_ := (Option.bind_some _ _).symm.trans H; rw [hy356]; with_reducible exact H2_) | (have H2_ := (Option.bind_some _ _).symm.trans H; with_reducible exact H2_) | with_reducible exact H | (rw [hy356]; exact H) | exact H
      have Ny356 := Aside0.mk hy356
      clear hy356
      replace H := bA H
      obtain ⟨⟨t359, t360, t361, t362, t365, t368, t371⟩, A10, H⟩ := H
      try dsimp only at H
      have HC11 := Aside0.mk H
      clear H
      obtain ⟨Ao12, co12, eo12, _⟩ := Kd.Q_slice HO_4.out
      subst eo12
      have p355 : 0 ≤ (0 : Int) := (by omega)
      have q355 : 0 < (x4_1.length : Int) := oa
      obtain ⟨ad355, e355, hx355_0⟩ := Kd.at_int (Kd.Q_reads' HO_4.out).2.2 0 p355 q355
      cases e355
      have qi355 : (0 < x4_1.length) = True := eq_true (by omega)
      (try rw [show ((0 : Int)).toNat = 0 from rfl] at hx355_0)
      (try rw [Addr.add_zero'] at hx355_0)
      replace p355 := eq_true p355
      replace q355 := eq_true q355
      have q13 : (1 : Int) ≤ ((x4_1.length : Int) : Int) := oa
      obtain ⟨i013, hi013, _, hsz13, _⟩ := info_parts info3
      have hcut13 := cut_from (P := Try.prog) 47 3 .i64 Try.underlying47 hi013 1 hsz13 (some ad355) x4_1.length co12 1 (by omega) q13
      have hr13 := Kd.Q_drop (k := (1 : Int).toNat) HO_4.out (by omega)
      obtain ⟨A13, hA13⟩ : ∃ A1, A1 = (if co12 = (1 : Int).toNat then (some ad355) else ((some ad355) : Option Addr).map (·.add ((1 : Int).toNat * 1))) := ⟨_, rfl⟩
      obtain ⟨c13, hc13⟩ : ∃ c1, c1 = co12 - (1 : Int).toNat := ⟨_, rfl⟩
      have hy13 : y356.length = x4_1.length - (1 : Int).toNat := (by rw [Ny356.out, List.length_drop])
      rw [← Ny356.out] at hr13
      rw [← hy13, ← hA13, ← hc13] at hcut13
      replace hr13 : Kd.Q (Kd.int .i64) 3 wr w.heap.size (fun k_ => some k_ ≠ (u3 : Value).ownBlock) (.slice A13 y356.length c13) y356 := (by rw [hA13, hc13, hy13]; exact hr13)
      have HE13 : Aside0 ((Value.slice A13 y356.length c13).ownBlock = (.slice (some ad355) x4_1.length co12 : Value).ownBlock) := ⟨by rw [hA13]; split <;> (cases ((some ad355) : Option Addr) <;> rfl)⟩
      clear hy13 hi013 hsz13 HO_4 hA13 hc13
      have HO358 := Aside0.mk hr13
      clear hr13
      replace q13 := eq_true q13
      have n_ := Aside0.mk (Kd.R_mono (ok' := fun k_ => some k_ ≠ (.slice A13 y356.length c13 : Value).ownBlock) HO_3.out (fun k_ hk => (by rw [HE13.out]; exact hk)))
      clear HO_3
      have HO_3 := n_
      clear n_
      obtain ⟨⟨_, _⟩, _, _⟩ := z2 BK348
      go_upto_region 7 with (first | ((with_reducible refine gate_callee (f := 27) rfl ?_); refine gl_ 23 Try.func27 (impl_InodeAt.calls k1 _ _ l0_0 a0_1 (rd x4_1 0) t359 t360 t361 t362 t365 t368 t371 _ (kC HR0_0) HC0_0.out A10.out) ?_; rintro e w15 ⟨v363, v366, v369, rfl, ho0, ho1, ho2, hb⟩; refine ⟨_, rfl, ?_⟩; have HO364 := Aside0.mk (Kd.R_lower ho0 (below_size oB)); have HO367 := Aside0.mk (Kd.R_lower ho1 (below_size oB)); have HO370 := Aside0.mk (Kd.R_lower ho2 (below_size oB)); replace HO_3 := kr_ HO_3 hb; replace HO358 := Aside0.mk (Kd.Q_below (by (with_reducible repeat (first | apply Kd.Q_alloc | apply Kd.Q_drewN | apply Kd.Q_drew)); exact HO358.out) hb); replace BK348 := kb_ BK348 hb; replace HB := Aside0.mk (below_step oB hb); (try clear ho1); (try clear ho2)) | ((with_reducible refine gate_dst (N := 6) rfl ?_); refine bx_ 6 #[.int .i64 0, .int .i64 0, .int .i64 0, .slice none 0 0, .slice none 0 0, .slice none 0 0] 40 ?_; intro gb372 hg w16 hbox hb; have BK372 := Aside0.mk (hbox); have GW372 := gs_ hg; have GE372 := gs_ hg; have NB348_372 := nl_ hg BK348; have NB372_348 := nr_ hg BK348; replace HO_3 := kr_ HO_3 hb; replace HO358 := Aside0.mk (Kd.Q_below (by (with_reducible repeat (first | apply Kd.Q_alloc | apply Kd.Q_drewN | apply Kd.Q_drew)); exact HO358.out) hb); replace HO364 := kr_ HO364 hb; replace HO367 := kr_ HO367 hb; replace HO370 := kr_ HO370 hb; replace BK348 := kb_ BK348 hb; replace HB := Aside0.mk (below_step oB hb); clear hb hbox hg; have hnb17 := NB372_348.out; have hnc17 := NB348_372.out; obtain ⟨⟨_, _, _, _, _, _⟩, _, _, _, _, _, _⟩ := z6 BK372; obtain ⟨Ao19, co19, eo19⟩ := Kd.R_slice HO364.out; subst eo19; obtain ⟨Ao20, co20, eo20⟩ := Kd.R_slice HO367.out; subst eo20; obtain ⟨Ao21, co21, eo21⟩ := Kd.R_slice HO370.out; subst eo21))
      (try simp only [Act.put, List.setIfInBounds_toArray, List.set_cons_zero, List.set_cons_succ])
      go_cut [32] (fun v32 wc => ∃ (kq : Nat) (x32_10 : Bool), v32 = .bool x32_10 ∧ Aside0 (impl_Reached.j1 kq x3_1 y356 (rd x4_1 0) x32_10 l0_0 a0_1 t359 t360 t361 t362 t365 t368 = some r) ∧ Aside0 (kq ≤ k1) ∧ Aside0 (Kd.R (Kd.int .i64) 3 wc w.heap.size (fun k_ => some k_ ≠ ((.slice A13 y356.length c13) : Value).ownBlock) u3 x3_1) ∧ Aside0 (Kd.Q (Kd.int .i64) 3 wc w.heap.size (fun k_ => some k_ ≠ (u3 : Value).ownBlock) (.slice A13 y356.length c13) y356) ∧ Aside0 (Kd.R (Kd.int .u8) 5 wc w.heap.size (fun _ => True) (.slice Ao19 t362.length co19) t362) ∧ Aside0 (Kd.R k82 82 wc w.heap.size (fun _ => True) (.slice Ao20 t365.length co20) t365) ∧ Aside0 (Kd.R k90 90 wc w.heap.size (fun _ => True) (.slice Ao21 t368.length co21) t368) ∧ Aside0 (wc.heap[gb348]? = some (.cells #[(.slice A0_0 l0_0.length c0_0), .int .i64 a0_1] 34 (0, 0))) ∧ Aside0 (wc.heap[gb372]? = some (.cells #[.int .i64 t359, .int .i64 t360, .int .i64 t361, (.slice Ao19 t362.length co19), (.slice Ao20 t365.length co20), (.slice Ao21 t368.length co21)] 40 (0, 0))) ∧ Aside0 (Below w.heap.size w wc))
      case first =>
       have H := HC11.out
       clear HC11
       replace H := itB H
       rcases H with ⟨rfl, H⟩ | ⟨rfl, H⟩
       ·replace H := bA H
        obtain ⟨t373, A23, H⟩ := H
        try dsimp only at H
        have H' := Aside0.mk H
        clear H
        obtain ⟨Ao24, co24, eo24⟩ := Kd.R_slice HO_3.out
        subst eo24
        go_wp2_with (first | (go_at_call 58; (with_reducible refine (slices_Contains_int_int.calls _ _ x3_1 (rd x4_1 0) t373 _ ?side1 (ko HO_3) A23.out).mono ?_); (case side1 => refine (Kd.R_reads' (e := 3) (base := w.heap.size) (ok := fun k_ => some k_ ≠ (.slice A13 y356.length c13 : Value).ownBlock) (n := x3_1.length) (c := co24) ?_).2.2; exact (by (with_reducible repeat (first | apply Kd.R_alloc | apply Kd.R_drewN | apply Kd.R_drew)); exact (Kd.R_mono (Kd.R_far (p := ⟨gb372, 5, none⟩) (Kd.R_far (p := ⟨gb372, 4, none⟩) (Kd.R_far (p := ⟨gb372, 3, none⟩) (Kd.R_far (p := ⟨gb372, 2, none⟩) (Kd.R_far (p := ⟨gb372, 1, none⟩) (Kd.R_far (p := ⟨gb372, 0, none⟩) (Kd.R_types HO_3.out BK372.out (by decide)) (fun _ hk => hk.2) (.int .i64 t359)) (fun _ hk => hk.2) (.int .i64 t360)) (fun _ hk => hk.2) (.int .i64 t361)) (fun _ hk => hk.2) (.slice Ao19 t362.length co19)) (fun _ hk => hk.2) (.slice Ao20 t365.length co20)) (fun _ hk => hk.2) (.slice Ao21 t368.length co21)) (fun _ h_ => h_.1)))); rintro e w25 ⟨rfl, hb⟩; replace HO_3 := Aside0.mk (Kd.R_below (by (with_reducible repeat (first | apply Kd.R_alloc | apply Kd.R_drewN | apply Kd.R_drew)); exact (Kd.R_mono (Kd.R_far (p := ⟨gb372, 5, none⟩) (Kd.R_far (p := ⟨gb372, 4, none⟩) (Kd.R_far (p := ⟨gb372, 3, none⟩) (Kd.R_far (p := ⟨gb372, 2, none⟩) (Kd.R_far (p := ⟨gb372, 1, none⟩) (Kd.R_far (p := ⟨gb372, 0, none⟩) (Kd.R_types HO_3.out BK372.out (by decide)) (fun _ hk => hk.2) (.int .i64 t359)) (fun _ hk => hk.2) (.int .i64 t360)) (fun _ hk => hk.2) (.int .i64 t361)) (fun _ hk => hk.2) (.slice Ao19 t362.length co19)) (fun _ hk => hk.2) (.slice Ao20 t365.length co20)) (fun _ hk => hk.2) (.slice Ao21 t368.length co21)) (fun _ h_ => h_.1))) hb); replace HO358 := Aside0.mk (Kd.Q_below (by (with_reducible repeat (first | apply Kd.Q_alloc | apply Kd.Q_drewN | apply Kd.Q_drew)); exact (Kd.Q_mono (Kd.Q_far (p := ⟨gb372, 5, none⟩) (Kd.Q_far (p := ⟨gb372, 4, none⟩) (Kd.Q_far (p := ⟨gb372, 3, none⟩) (Kd.Q_far (p := ⟨gb372, 2, none⟩) (Kd.Q_far (p := ⟨gb372, 1, none⟩) (Kd.Q_far (p := ⟨gb372, 0, none⟩) (Kd.Q_types HO358.out BK372.out (by decide)) (fun _ hk => hk.2) (.int .i64 t359)) (fun _ hk => hk.2) (.int .i64 t360)) (fun _ hk => hk.2) (.int .i64 t361)) (fun _ hk => hk.2) (.slice Ao19 t362.length co19)) (fun _ hk => hk.2) (.slice Ao20 t365.length co20)) (fun _ hk => hk.2) (.slice Ao21 t368.length co21)) (fun _ h_ => h_.1))) hb); replace HO364 := Aside0.mk (Kd.R_below (by (with_reducible repeat (first | apply Kd.R_alloc | apply Kd.R_drewN | apply Kd.R_drew)); exact (Kd.R_mono (Kd.R_far (p := ⟨gb372, 5, none⟩) (Kd.R_far (p := ⟨gb372, 4, none⟩) (Kd.R_far (p := ⟨gb372, 3, none⟩) (Kd.R_far (p := ⟨gb372, 2, none⟩) (Kd.R_far (p := ⟨gb372, 1, none⟩) (Kd.R_far (p := ⟨gb372, 0, none⟩) (Kd.R_types HO364.out BK372.out (by decide)) (fun _ hk => hk.2) (.int .i64 t359)) (fun _ hk => hk.2) (.int .i64 t360)) (fun _ hk => hk.2) (.int .i64 t361)) (fun _ hk => hk.2) (.slice Ao19 t362.length co19)) (fun _ hk => hk.2) (.slice Ao20 t365.length co20)) (fun _ hk => hk.2) (.slice Ao21 t368.length co21)) (fun _ h_ => h_.1))) hb); replace HO367 := Aside0.mk (Kd.R_below (by (with_reducible repeat (first | apply Kd.R_alloc | apply Kd.R_drewN | apply Kd.R_drew)); exact (Kd.R_mono (Kd.R_far (p := ⟨gb372, 5, none⟩) (Kd.R_far (p := ⟨gb372, 4, none⟩) (Kd.R_far (p := ⟨gb372, 3, none⟩) (Kd.R_far (p := ⟨gb372, 2, none⟩) (Kd.R_far (p := ⟨gb372, 1, none⟩) (Kd.R_far (p := ⟨gb372, 0, none⟩) (Kd.R_types HO367.out BK372.out (by decide)) (fun _ hk => hk.2) (.int .i64 t359)) (fun _ hk => hk.2) (.int .i64 t360)) (fun _ hk => hk.2) (.int .i64 t361)) (fun _ hk => hk.2) (.slice Ao19 t362.length co19)) (fun _ hk => hk.2) (.slice Ao20 t365.length co20)) (fun _ hk => hk.2) (.slice Ao21 t368.length co21)) (fun _ h_ => h_.1))) hb); replace HO370 := Aside0.mk (Kd.R_below (by (with_reducible repeat (first | apply Kd.R_alloc | apply Kd.R_drewN | apply Kd.R_drew)); exact (Kd.R_mono (Kd.R_far (p := ⟨gb372, 5, none⟩) (Kd.R_far (p := ⟨gb372, 4, none⟩) (Kd.R_far (p := ⟨gb372, 3, none⟩) (Kd.R_far (p := ⟨gb372, 2, none⟩) (Kd.R_far (p := ⟨gb372, 1, none⟩) (Kd.R_far (p := ⟨gb372, 0, none⟩) (Kd.R_types HO370.out BK372.out (by decide)) (fun _ hk => hk.2) (.int .i64 t359)) (fun _ hk => hk.2) (.int .i64 t360)) (fun _ hk => hk.2) (.int .i64 t361)) (fun _ hk => hk.2) (.slice Ao19 t362.length co19)) (fun _ hk => hk.2) (.slice Ao20 t365.length co20)) (fun _ hk => hk.2) (.slice Ao21 t368.length co21)) (fun _ h_ => h_.1))) hb); replace BK348 := Aside0.mk (blk_below (g := gb348) (o := .cells #[.slice A0_0 l0_0.length c0_0, .int .i64 a0_1] 34 (0, 0)) (by (with_reducible repeat (first | refine blk_drewN ?_ _ | refine blk_drew ?_ | refine blk_alloc ?_ _)); refine blk_far ?_ NB348_372.out _; (with_reducible repeat (first | refine blk_drewN ?_ _ | refine blk_drew ?_ | refine blk_alloc ?_ _)); refine blk_far ?_ NB348_372.out _; (with_reducible repeat (first | refine blk_drewN ?_ _ | refine blk_drew ?_ | refine blk_alloc ?_ _)); refine blk_far ?_ NB348_372.out _; (with_reducible repeat (first | refine blk_drewN ?_ _ | refine blk_drew ?_ | refine blk_alloc ?_ _)); refine blk_far ?_ NB348_372.out _; (with_reducible repeat (first | refine blk_drewN ?_ _ | refine blk_drew ?_ | refine blk_alloc ?_ _)); refine blk_far ?_ NB348_372.out _; (with_reducible repeat (first | refine blk_drewN ?_ _ | refine blk_drew ?_ | refine blk_alloc ?_ _)); refine blk_far ?_ NB348_372.out _; (with_reducible repeat (first | refine blk_drewN ?_ _ | refine blk_drew ?_ | refine blk_alloc ?_ _)); exact BK348.out) hb); replace BK372 := Aside0.mk (blk_below (g := gb372) (o := .cells #[.int .i64 t359, .int .i64 t360, .int .i64 t361, .slice Ao19 t362.length co19, .slice Ao20 t365.length co20, .slice Ao21 t368.length co21] 40 (0, 0)) (by (with_reducible repeat (first | refine blk_drewN ?_ _ | refine blk_drew ?_ | refine blk_alloc ?_ _)); refine blk_put (cs := #[.int .i64 t359, .int .i64 t360, .int .i64 t361, .slice Ao19 t362.length co19, .slice Ao20 t365.length co20, .slice none 0 0]) ?_ 5 _ rfl; (with_reducible repeat (first | refine blk_drewN ?_ _ | refine blk_drew ?_ | refine blk_alloc ?_ _)); refine blk_put (cs := #[.int .i64 t359, .int .i64 t360, .int .i64 t361, .slice Ao19 t362.length co19, .slice none 0 0, .slice none 0 0]) ?_ 4 _ rfl; (with_reducible repeat (first | refine blk_drewN ?_ _ | refine blk_drew ?_ | refine blk_alloc ?_ _)); refine blk_put (cs := #[.int .i64 t359, .int .i64 t360, .int .i64 t361, .slice none 0 0, .slice none 0 0, .slice none 0 0]) ?_ 3 _ rfl; (with_reducible repeat (first | refine blk_drewN ?_ _ | refine blk_drew ?_ | refine blk_alloc ?_ _)); refine blk_put (cs := #[.int .i64 t359, .int .i64 t360, .int .i64 0, .slice none 0 0, .slice none 0 0, .slice none 0 0]) ?_ 2 _ rfl; (with_reducible repeat (first | refine blk_drewN ?_ _ | refine blk_drew ?_ | refine blk_alloc ?_ _)); refine blk_put (cs := #[.int .i64 t359, .int .i64 0, .int .i64 0, .slice none 0 0, .slice none 0 0, .slice none 0 0]) ?_ 1 _ rfl; (with_reducible repeat (first | refine blk_drewN ?_ _ | refine blk_drew ?_ | refine blk_alloc ?_ _)); refine blk_put (cs := #[.int .i64 0, .int .i64 0, .int .i64 0, .slice none 0 0, .slice none 0 0, .slice none 0 0]) ?_ 0 _ rfl; (with_reducible repeat (first | refine blk_drewN ?_ _ | refine blk_drew ?_ | refine blk_alloc ?_ _)); exact BK372.out) hb); replace HB := Aside0.mk (below_step oB hb); (try clear hk)))
        go_meet
        case rel => exact ⟨_, (t373), oS, H', ⟨by have := HK1.out; first | omega | exact Nat.le_refl _⟩, ⟨oR HO_3⟩, ⟨by (with_reducible repeat (first | apply Kd.Q_alloc | apply Kd.Q_drewN | apply Kd.Q_drew)); exact HO358.out⟩, ⟨oR HO364⟩, ⟨oR HO367⟩, ⟨oR HO370⟩, ⟨oF BK348⟩, ⟨oF BK372⟩, ⟨oB⟩⟩
       ·have H' := Aside0.mk H
        clear H
        go_wp2
        go_meet
        case rel => exact ⟨_, (true), oS, H', ⟨by have := HK1.out; first | omega | exact Nat.le_refl _⟩, ⟨by (with_reducible repeat (first | apply Kd.R_alloc | apply Kd.R_drewN | apply Kd.R_drew)); exact Kd.R_mono (Kd.R_far (p := ⟨gb372, 5, none⟩) (Kd.R_far (p := ⟨gb372, 4, none⟩) (Kd.R_far (p := ⟨gb372, 3, none⟩) (Kd.R_far (p := ⟨gb372, 2, none⟩) (Kd.R_far (p := ⟨gb372, 1, none⟩) (Kd.R_far (p := ⟨gb372, 0, none⟩) (Kd.R_types HO_3.out BK372.out (by decide)) (fun _ hk => hk.2) (.int .i64 t359)) (fun _ hk => hk.2) (.int .i64 t360)) (fun _ hk => hk.2) (.int .i64 t361)) (fun _ hk => hk.2) (.slice Ao19 t362.length co19)) (fun _ hk => hk.2) (.slice Ao20 t365.length co20)) (fun _ hk => hk.2) (.slice Ao21 t368.length co21)) (fun _ hk => hk.1)⟩, ⟨by (with_reducible repeat (first | apply Kd.Q_alloc | apply Kd.Q_drewN | apply Kd.Q_drew)); exact Kd.Q_mono (Kd.Q_far (p := ⟨gb372, 5, none⟩) (Kd.Q_far (p := ⟨gb372, 4, none⟩) (Kd.Q_far (p := ⟨gb372, 3, none⟩) (Kd.Q_far (p := ⟨gb372, 2, none⟩) (Kd.Q_far (p := ⟨gb372, 1, none⟩) (Kd.Q_far (p := ⟨gb372, 0, none⟩) (Kd.Q_types HO358.out BK372.out (by decide)) (fun _ hk => hk.2) (.int .i64 t359)) (fun _ hk => hk.2) (.int .i64 t360)) (fun _ hk => hk.2) (.int .i64 t361)) (fun _ hk => hk.2) (.slice Ao19 t362.length co19)) (fun _ hk => hk.2) (.slice Ao20 t365.length co20)) (fun _ hk => hk.2) (.slice Ao21 t368.length co21)) (fun _ hk => hk.1)⟩, ⟨by (with_reducible repeat (first | apply Kd.R_alloc | apply Kd.R_drewN | apply Kd.R_drew)); exact Kd.R_mono (Kd.R_far (p := ⟨gb372, 5, none⟩) (Kd.R_far (p := ⟨gb372, 4, none⟩) (Kd.R_far (p := ⟨gb372, 3, none⟩) (Kd.R_far (p := ⟨gb372, 2, none⟩) (Kd.R_far (p := ⟨gb372, 1, none⟩) (Kd.R_far (p := ⟨gb372, 0, none⟩) (Kd.R_types HO364.out BK372.out (by decide)) (fun _ hk => hk.2) (.int .i64 t359)) (fun _ hk => hk.2) (.int .i64 t360)) (fun _ hk => hk.2) (.int .i64 t361)) (fun _ hk => hk.2) (.slice Ao19 t362.length co19)) (fun _ hk => hk.2) (.slice Ao20 t365.length co20)) (fun _ hk => hk.2) (.slice Ao21 t368.length co21)) (fun _ hk => trivial)⟩, ⟨by (with_reducible repeat (first | apply Kd.R_alloc | apply Kd.R_drewN | apply Kd.R_drew)); exact Kd.R_mono (Kd.R_far (p := ⟨gb372, 5, none⟩) (Kd.R_far (p := ⟨gb372, 4, none⟩) (Kd.R_far (p := ⟨gb372, 3, none⟩) (Kd.R_far (p := ⟨gb372, 2, none⟩) (Kd.R_far (p := ⟨gb372, 1, none⟩) (Kd.R_far (p := ⟨gb372, 0, none⟩) (Kd.R_types HO367.out BK372.out (by decide)) (fun _ hk => hk.2) (.int .i64 t359)) (fun _ hk => hk.2) (.int .i64 t360)) (fun _ hk => hk.2) (.int .i64 t361)) (fun _ hk => hk.2) (.slice Ao19 t362.length co19)) (fun _ hk => hk.2) (.slice Ao20 t365.length co20)) (fun _ hk => hk.2) (.slice Ao21 t368.length co21)) (fun _ hk => trivial)⟩, ⟨by (with_reducible repeat (first | apply Kd.R_alloc | apply Kd.R_drewN | apply Kd.R_drew)); exact Kd.R_mono (Kd.R_far (p := ⟨gb372, 5, none⟩) (Kd.R_far (p := ⟨gb372, 4, none⟩) (Kd.R_far (p := ⟨gb372, 3, none⟩) (Kd.R_far (p := ⟨gb372, 2, none⟩) (Kd.R_far (p := ⟨gb372, 1, none⟩) (Kd.R_far (p := ⟨gb372, 0, none⟩) (Kd.R_types HO370.out BK372.out (by decide)) (fun _ hk => hk.2) (.int .i64 t359)) (fun _ hk => hk.2) (.int .i64 t360)) (fun _ hk => hk.2) (.int .i64 t361)) (fun _ hk => hk.2) (.slice Ao19 t362.length co19)) (fun _ hk => hk.2) (.slice Ao20 t365.length co20)) (fun _ hk => hk.2) (.slice Ao21 t368.length co21)) (fun _ hk => trivial)⟩, ⟨by (with_reducible repeat (first | refine blk_drewN ?_ _ | refine blk_drew ?_ | refine blk_alloc ?_ _)); refine blk_far ?_ NB348_372.out _; (with_reducible repeat (first | refine blk_drewN ?_ _ | refine blk_drew ?_ | refine blk_alloc ?_ _)); refine blk_far ?_ NB348_372.out _; (with_reducible repeat (first | refine blk_drewN ?_ _ | refine blk_drew ?_ | refine blk_alloc ?_ _)); refine blk_far ?_ NB348_372.out _; (with_reducible repeat (first | refine blk_drewN ?_ _ | refine blk_drew ?_ | refine blk_alloc ?_ _)); refine blk_far ?_ NB348_372.out _; (with_reducible repeat (first | refine blk_drewN ?_ _ | refine blk_drew ?_ | refine blk_alloc ?_ _)); refine blk_far ?_ NB348_372.out _; (with_reducible repeat (first | refine blk_drewN ?_ _ | refine blk_drew ?_ | refine blk_alloc ?_ _)); refine blk_far ?_ NB348_372.out _; (with_reducible repeat (first | refine blk_drewN ?_ _ | refine blk_drew ?_ | refine blk_alloc ?_ _)); exact BK348.out⟩, ⟨by (with_reducible repeat (first | refine blk_drewN ?_ _ | refine blk_drew ?_ | refine blk_alloc ?_ _)); refine blk_put (cs := #[.int .i64 t359, .int .i64 t360, .int .i64 t361, .slice Ao19 t362.length co19, .slice Ao20 t365.length co20, .slice none 0 0]) ?_ 5 _ rfl; (with_reducible repeat (first | refine blk_drewN ?_ _ | refine blk_drew ?_ | refine blk_alloc ?_ _)); refine blk_put (cs := #[.int .i64 t359, .int .i64 t360, .int .i64 t361, .slice Ao19 t362.length co19, .slice none 0 0, .slice none 0 0]) ?_ 4 _ rfl; (with_reducible repeat (first | refine blk_drewN ?_ _ | refine blk_drew ?_ | refine blk_alloc ?_ _)); refine blk_put (cs := #[.int .i64 t359, .int .i64 t360, .int .i64 t361, .slice none 0 0, .slice none 0 0, .slice none 0 0]) ?_ 3 _ rfl; (with_reducible repeat (first | refine blk_drewN ?_ _ | refine blk_drew ?_ | refine blk_alloc ?_ _)); refine blk_put (cs := #[.int .i64 t359, .int .i64 t360, .int .i64 0, .slice none 0 0, .slice none 0 0, .slice none 0 0]) ?_ 2 _ rfl; (with_reducible repeat (first | refine blk_drewN ?_ _ | refine blk_drew ?_ | refine blk_alloc ?_ _)); refine blk_put (cs := #[.int .i64 t359, .int .i64 0, .int .i64 0, .slice none 0 0, .slice none 0 0, .slice none 0 0]) ?_ 1 _ rfl; (with_reducible repeat (first | refine blk_drewN ?_ _ | refine blk_drew ?_ | refine blk_alloc ?_ _)); refine blk_put (cs := #[.int .i64 0, .int .i64 0, .int .i64 0, .slice none 0 0, .slice none 0 0, .slice none 0 0]) ?_ 0 _ rfl; (with_reducible repeat (first | refine blk_drewN ?_ _ | refine blk_drew ?_ | refine blk_alloc ?_ _)); exact BK372.out⟩, ⟨oB⟩⟩
      case rest =>
       clear HC11
       try clear c7
       try clear c7b0
       try clear c7b1
       try clear c8
       try clear c8b0
       try clear c8b1
       try clear c9
       obtain ⟨kq, x32_10, rfl, HA, HJ10, HO_3, HO_4, HO_373003, HO_373004, HO_373005, BK348, BK372, HB⟩ := hcut
       cases kq with
       | zero => exact absurd HA.out (by simp [impl_Reached.j1])
       | succ kj10 =>
        have H := HA.out
        clear HA
        simp only [impl_Reached.j1] at H
        replace H := itB H
        rcases H with ⟨rfl, H⟩ | ⟨rfl, H⟩
        ·have H' := Aside0.mk H
         clear H
         go_wp2
         go_roundg kj10
         case measure => have := HK1.out; have := HJ10.out; omega
         case rel => exact ⟨(x3_1), (y356), H', ⟨by have := HK1.out; have := HJ10.out; omega⟩, ⟨oR HO_3⟩, ⟨by (with_reducible repeat (first | apply Kd.Q_alloc | apply Kd.Q_drewN | apply Kd.Q_drew)); exact HO_4.out⟩, ⟨oF BK348⟩, ⟨oB⟩⟩
        ·by_cases c27 : x3_1.length < 17592186044416
         ·rw [if_pos c27] at H
          have LMc27 := Aside0.mk c27
          clear c27
          obtain ⟨y374, hy374⟩ : ∃ y_ : List Int, y_ = (x3_1 ++ [(rd x4_1 0)]) := ⟨_, rfl⟩
          replace H : (if t360 = 2 then (impl_Reached.l1 kj10 y374 y356 t365 (t365.length : Int) 0 l0_0 a0_1) else (impl_Reached.l0 kj10 y374 y356 l0_0 a0_1)) = some r := by first | (rw [hy374]; with_reducible exact H) | (have H2_ := (Option.bind_some _ _).symm.trans H; rw [hy374]; with_reducible exact H2_) | (have H2_ := (Option.bind_some _ _).symm.trans H; with_reducible exact H2_) | with_reducible exact H | (rw [hy374]; exact H) | exact H
          have Ny374 := Aside0.mk hy374
          clear hy374
          by_cases c28 : t360 = 2
          ·rw [if_pos c28] at H
           have c28b0 : (t360 == 2) = true := beq_iff_eq.mpr c28
           have c28b1 : (t360 != 2) = false := bne_eq_false_iff_eq.mpr c28
           clear c28
           have H' := Aside0.mk H
           clear H
           go_wp2_with (first | ((with_reducible refine gate_builtin (b := .append) (xs := #[.tmp 33, .tmp 35]) rfl ?_); at_builtin; refine Kd.R_append (Kd.int .i64) (w0 := w) w.heap.size rfl (.tmp 33) (.tmp 35) 47 3 (.int .i64 0) 8 rfl Try.underlying47 info3 rfl (by decide) (by omega) u3 x3_1 (rd x4_1 0) [.int .i64 (rd x4_1 0)] (fun k_ => some k_ ≠ (.slice A13 y356.length c13 : Value).ownBlock) (fun _ => False) rfl rfl ?aP (fun _ hk => hk.elim) ?aF ?aO ?aB ?aS ?aL ?_; (case aP => exact rfl); (case aB => exact oB); (case aF => exact (fun k_ hk => Kd.fresh' (Kd.Q_lt (by (with_reducible repeat (first | apply Kd.Q_alloc | apply Kd.Q_drewN | apply Kd.Q_drew)); exact HO_4.out)) k_ hk)); (case aO => exact (oR HO_3)); (case aS => exact (below_size oB)); (case aL => have := LMc27.out; omega); intro v375 w29 ho hb hg hat; rw [← Ny374.out] at ho; have HO376 := Aside0.mk (ho); replace HO_4 := Aside0.mk (Kd.Q_after (ok := (fun _ => True)) (by (with_reducible repeat (first | apply Kd.Q_alloc | apply Kd.Q_drewN | apply Kd.Q_drew)); exact Kd.Q_mono HO_4.out (fun _ hk => ⟨trivial, hk⟩)) hg hat); replace HO_373003 := Aside0.mk (Kd.R_over' (oR HO_373003) (Kd.R_typed (oR HO_3)) (by decide) hg); replace HO_373004 := Aside0.mk (Kd.R_over' (oR HO_373004) (Kd.R_typed (oR HO_3)) (by decide) hg); replace HO_373005 := Aside0.mk (Kd.R_over' (oR HO_373005) (Kd.R_typed (oR HO_3)) (by decide) hg); replace BK348 := Aside0.mk (blk_grown (g := gb348) (o := .cells #[.slice A0_0 l0_0.length c0_0, .int .i64 a0_1] 34 (0, 0)) (oF BK348) hg (Kd.R_ne HO_3.out BK348.out (by decide))); replace BK372 := Aside0.mk (blk_grown (g := gb372) (o := .cells #[.int .i64 t359, .int .i64 t360, .int .i64 t361, .slice Ao19 t362.length co19, .slice Ao20 t365.length co20, .slice Ao21 t368.length co21] 40 (0, 0)) (oF BK372) hg (Kd.R_ne HO_3.out BK372.out (by decide))); replace HB := Aside0.mk (hb); clear HO_3; clear ho hb hg hat; have hnb30 := NB372_348.out; have hnc30 := NB348_372.out; obtain ⟨⟨_, _, _, _, _, _⟩, _, _, _, _, _, _⟩ := z6 BK372))
           go_loopg [4, 43] kj10 (fun kq v4 v43 w' => ∃ (x4_3 : List Int) (x43_3 : Int), v43 = .int .i64 x43_3 ∧ Aside0 (impl_Reached.l1 kq y374 x4_3 t365 (t365.length : Int) x43_3 l0_0 a0_1 = some r) ∧ Aside0 (kq ≤ kj10) ∧ Aside0 (Kd.R (Kd.int .i64) 3 w' w.heap.size (fun k_ => some k_ ≠ (v4 : Value).ownBlock) v375 y374) ∧ Aside0 (Kd.Q (Kd.int .i64) 3 w' w.heap.size (fun k_ => some k_ ≠ (v375 : Value).ownBlock) v4 x4_3) ∧ Aside0 (Kd.R k82 82 w' w.heap.size (fun _ => True) (.slice Ao20 t365.length co20) t365) ∧ Aside0 (Kd.R (Kd.int .u8) 5 w' w.heap.size (fun _ => True) (.slice Ao19 t362.length co19) t362) ∧ Aside0 (Kd.R k82 82 w' w.heap.size (fun _ => True) (.slice Ao20 t365.length co20) t365) ∧ Aside0 (Kd.R k90 90 w' w.heap.size (fun _ => True) (.slice Ao21 t368.length co21) t368) ∧ Aside0 (w'.heap[gb348]? = some (.cells #[(.slice A0_0 l0_0.length c0_0), .int .i64 a0_1] 34 (0, 0))) ∧ Aside0 (w'.heap[gb372]? = some (.cells #[.int .i64 t359, .int .i64 t360, .int .i64 t361, (.slice Ao19 t362.length co19), (.slice Ao20 t365.length co20), (.slice Ao21 t368.length co21)] 40 (0, 0))) ∧ Aside0 (Below w.heap.size w w'))
           case atStart => exact ⟨(y356), (0), oS, H', ⟨Nat.le_refl _⟩, ⟨oR HO376⟩, ⟨by (with_reducible repeat (first | apply Kd.Q_alloc | apply Kd.Q_drewN | apply Kd.Q_drew)); exact Kd.Q_mono HO_4.out (fun _ hk => hk.2)⟩, ⟨oR HO_373004⟩, ⟨oR HO_373003⟩, ⟨oR HO_373004⟩, ⟨oR HO_373005⟩, ⟨oF BK348⟩, ⟨oF BK372⟩, ⟨oB⟩⟩
           case round =>
            clear H'
            try clear c7
            try clear c7b0
            try clear c7b1
            try clear c8
            try clear c8b0
            try clear c8b1
            try clear c9
            try clear c27
            try clear c28
            obtain ⟨x4_3, x43_3, rfl, HA, HK3, HO_3, HO_4, HO_41, HO_373003, HO_373004, HO_373005, BK348, BK372, HB⟩ := hrel
            cases gk with
            | zero => exact absurd HA.out (by simp [impl_Reached.l1])
            | succ k3 =>
             have H := HA.out
             clear HA
             simp only [impl_Reached.l1] at H
             replace H := itD H
             rcases H with ⟨c32b0, H⟩ | ⟨c32b0, H⟩
             ·replace H := itD H
              rcases H with ⟨c33b0, H⟩ | ⟨c33b0, H⟩
              ·replace H := itD H
               rcases H with ⟨c34b0, H⟩ | ⟨c34b0, H⟩
               ·by_cases c35 : x4_3.length < 17592186044416
                ·rw [if_pos c35] at H
                 have LMc35 := Aside0.mk c35
                 clear c35
                 obtain ⟨y379, hy379⟩ : ∃ y_ : List Int, y_ = (x4_3 ++ [(rd_T82 t365 x43_3).f1]) := ⟨_, rfl⟩
                 replace H : (impl_Reached.l1 k3 y374 y379 t365 (t365.length : Int) (wrap64 (x43_3 + 1)) l0_0 a0_1) = some r := by first | (rw [hy379]; with_reducible exact H) | (have H2_ := (Option.bind_some _ _).symm.trans H; rw [hy379]; with_reducible exact H2_) | (have H2_ := (Option.bind_some _ _).symm.trans H; with_reducible exact H2_) | with_reducible exact H | (rw [hy379]; exact H) | exact H
                 have Ny379 := Aside0.mk hy379
                 clear hy379
                 have H' := Aside0.mk H
                 clear H
                 have p377 : (0 ≤ (x43_3 : Int)) = True := oT
                 have q377 : (x43_3 < (t365.length : Int)) = True := oT
                 obtain ⟨ad377, e377, hx377_0, hx377_1⟩ := at_T82 (Kd.R_reads' HO_41.out).2.2 x43_3 oa oa
                 cases e377
                 go_wp2_with (first | ((with_reducible refine gate_dst (N := 9) rfl ?_); refine bx_ 9 #[.string (⟨#[]⟩ : ByteArray), .int .i64 0] 82 ?_; intro gb378 hg w36 hbox hb; have BK378 := Aside0.mk (hbox); have GW378 := gs_ hg; have GE378 := gs_ hg; have NB348_378 := nl_ hg BK348; have NB378_348 := nr_ hg BK348; have NB372_378 := nl_ hg BK372; have NB378_372 := nr_ hg BK372; replace HO_3 := kr_ HO_3 hb; replace HO_4 := Aside0.mk (Kd.Q_below (by (with_reducible repeat (first | apply Kd.Q_alloc | apply Kd.Q_drewN | apply Kd.Q_drew)); exact HO_4.out) hb); replace HO_41 := Aside0.mk (Kd.R_below (Kd.R_elderB (oR HO_41) gb378 (Nat.le_of_eq hg.symm)) hb); replace HO_373003 := kr_ HO_373003 hb; replace HO_373004 := Aside0.mk (Kd.R_below (Kd.R_elderB (oR HO_373004) gb378 (Nat.le_of_eq hg.symm)) hb); replace HO_373005 := kr_ HO_373005 hb; replace BK348 := kb_ BK348 hb; replace BK372 := kb_ BK372 hb; replace HB := Aside0.mk (below_step oB hb); clear hb hbox hg; have hnb37 := NB378_348.out; have hnc37 := NB348_378.out; have hnb38 := NB378_372.out; have hnc38 := NB372_378.out; obtain ⟨⟨_, _⟩, _, _⟩ := z2 BK378) | ((with_reducible refine gate_builtin (b := .append) (xs := #[.tmp 47, .tmp 50]) rfl ?_); at_builtin; refine Kd.Q_append (Kd.int .i64) (w0 := w) w.heap.size rfl (.tmp 47) (.tmp 50) 47 3 (.int .i64 0) 8 rfl Try.underlying47 info3 rfl (by decide) (by omega) u4 x4_3 ((rd_T82 t365 x43_3).f1) [.int .i64 ((rd_T82 t365 x43_3).f1)] (fun k_ => some k_ ≠ (v375 : Value).ownBlock) (fun _ => False) rfl (by first | (go_simp; done) | (go_simp; rfl)) ?aP (fun _ hk => hk.elim) ?aF ?aO ?aB ?aS ?aL ?_; (case aP => exact rfl); (case aB => exact oB); (case aF => exact (fun k_ hk => Kd.fresh' (Kd.R_lt (by (with_reducible repeat (first | apply Kd.R_alloc | apply Kd.R_drewN | apply Kd.R_drew)); exact (Kd.R_mono (Kd.R_far (p := ⟨gb378, 1, none⟩) (Kd.R_far (p := ⟨gb378, 0, none⟩) (Kd.R_types HO_3.out BK378.out (by decide)) (fun _ hk => hk.2) (.string ((rd_T82 t365 x43_3).f0))) (fun _ hk => hk.2) (.int .i64 ((rd_T82 t365 x43_3).f1))) (fun _ h_ => h_.1)))) k_ hk)); (case aO => exact (by (with_reducible repeat (first | apply Kd.Q_alloc | apply Kd.Q_drewN | apply Kd.Q_drew)); exact Kd.Q_mono (Kd.Q_far (p := ⟨gb378, 1, none⟩) (Kd.Q_far (p := ⟨gb378, 0, none⟩) (Kd.Q_types HO_4.out BK378.out (by decide)) (fun _ hk => hk.2) (.string ((rd_T82 t365 x43_3).f0))) (fun _ hk => hk.2) (.int .i64 ((rd_T82 t365 x43_3).f1))) (fun _ hk => hk.1))); (case aS => exact (below_size oB)); (case aL => have := LMc35.out; omega); intro v380 w40 ho hb hg hat; rw [← Ny379.out] at ho; have HO381 := Aside0.mk (ho); replace HO_3 := Aside0.mk (Kd.R_after (ok := (fun _ => True)) (by (with_reducible repeat (first | apply Kd.R_alloc | apply Kd.R_drewN | apply Kd.R_drew)); exact Kd.R_mono (Kd.R_far (p := ⟨gb378, 1, none⟩) (Kd.R_far (p := ⟨gb378, 0, none⟩) (Kd.R_types HO_3.out BK378.out (by decide)) (fun _ hk => hk.2) (.string ((rd_T82 t365 x43_3).f0))) (fun _ hk => hk.2) (.int .i64 ((rd_T82 t365 x43_3).f1))) (fun _ hk => ⟨trivial, hk.1⟩)) hg hat); replace HO_41 := Aside0.mk (Kd.R_over' (by (with_reducible repeat (first | apply Kd.R_alloc | apply Kd.R_drewN | apply Kd.R_drew)); exact (Kd.R_mono (Kd.R_far (p := ⟨gb378, 1, none⟩) (Kd.R_far (p := ⟨gb378, 0, none⟩) (Kd.R_mono HO_41.out (fun k_ hk => (⟨hk, hk.2⟩ : _ ∧ k_ ≠ gb378))) (fun _ hk => hk.2) (.string ((rd_T82 t365 x43_3).f0))) (fun _ hk => hk.2) (.int .i64 ((rd_T82 t365 x43_3).f1))) (fun _ h_ => h_.1))) (Kd.Q_typed (by (with_reducible repeat (first | apply Kd.Q_alloc | apply Kd.Q_drewN | apply Kd.Q_drew)); exact (Kd.Q_mono (Kd.Q_far (p := ⟨gb378, 1, none⟩) (Kd.Q_far (p := ⟨gb378, 0, none⟩) (Kd.Q_types HO_4.out BK378.out (by decide)) (fun _ hk => hk.2) (.string ((rd_T82 t365 x43_3).f0))) (fun _ hk => hk.2) (.int .i64 ((rd_T82 t365 x43_3).f1))) (fun _ h_ => h_.1)))) (by decide) hg); replace HO_373003 := Aside0.mk (Kd.R_over' (by (with_reducible repeat (first | apply Kd.R_alloc | apply Kd.R_drewN | apply Kd.R_drew)); exact (Kd.R_mono (Kd.R_far (p := ⟨gb378, 1, none⟩) (Kd.R_far (p := ⟨gb378, 0, none⟩) (Kd.R_types HO_373003.out BK378.out (by decide)) (fun _ hk => hk.2) (.string ((rd_T82 t365 x43_3).f0))) (fun _ hk => hk.2) (.int .i64 ((rd_T82 t365 x43_3).f1))) (fun _ h_ => h_.1))) (Kd.Q_typed (by (with_reducible repeat (first | apply Kd.Q_alloc | apply Kd.Q_drewN | apply Kd.Q_drew)); exact (Kd.Q_mono (Kd.Q_far (p := ⟨gb378, 1, none⟩) (Kd.Q_far (p := ⟨gb378, 0, none⟩) (Kd.Q_types HO_4.out BK378.out (by decide)) (fun _ hk => hk.2) (.string ((rd_T82 t365 x43_3).f0))) (fun _ hk => hk.2) (.int .i64 ((rd_T82 t365 x43_3).f1))) (fun _ h_ => h_.1)))) (by decide) hg); replace HO_373004 := Aside0.mk (Kd.R_over' (by (with_reducible repeat (first | apply Kd.R_alloc | apply Kd.R_drewN | apply Kd.R_drew)); exact (Kd.R_mono (Kd.R_far (p := ⟨gb378, 1, none⟩) (Kd.R_far (p := ⟨gb378, 0, none⟩) (Kd.R_mono HO_373004.out (fun k_ hk => (⟨hk, hk.2⟩ : _ ∧ k_ ≠ gb378))) (fun _ hk => hk.2) (.string ((rd_T82 t365 x43_3).f0))) (fun _ hk => hk.2) (.int .i64 ((rd_T82 t365 x43_3).f1))) (fun _ h_ => h_.1))) (Kd.Q_typed (by (with_reducible repeat (first | apply Kd.Q_alloc | apply Kd.Q_drewN | apply Kd.Q_drew)); exact (Kd.Q_mono (Kd.Q_far (p := ⟨gb378, 1, none⟩) (Kd.Q_far (p := ⟨gb378, 0, none⟩) (Kd.Q_types HO_4.out BK378.out (by decide)) (fun _ hk => hk.2) (.string ((rd_T82 t365 x43_3).f0))) (fun _ hk => hk.2) (.int .i64 ((rd_T82 t365 x43_3).f1))) (fun _ h_ => h_.1)))) (by decide) hg); replace HO_373005 := Aside0.mk (Kd.R_over' (by (with_reducible repeat (first | apply Kd.R_alloc | apply Kd.R_drewN | apply Kd.R_drew)); exact (Kd.R_mono (Kd.R_far (p := ⟨gb378, 1, none⟩) (Kd.R_far (p := ⟨gb378, 0, none⟩) (Kd.R_types HO_373005.out BK378.out (by decide)) (fun _ hk => hk.2) (.string ((rd_T82 t365 x43_3).f0))) (fun _ hk => hk.2) (.int .i64 ((rd_T82 t365 x43_3).f1))) (fun _ h_ => h_.1))) (Kd.Q_typed (by (with_reducible repeat (first | apply Kd.Q_alloc | apply Kd.Q_drewN | apply Kd.Q_drew)); exact (Kd.Q_mono (Kd.Q_far (p := ⟨gb378, 1, none⟩) (Kd.Q_far (p := ⟨gb378, 0, none⟩) (Kd.Q_types HO_4.out BK378.out (by decide)) (fun _ hk => hk.2) (.string ((rd_T82 t365 x43_3).f0))) (fun _ hk => hk.2) (.int .i64 ((rd_T82 t365 x43_3).f1))) (fun _ h_ => h_.1)))) (by decide) hg); replace BK348 := Aside0.mk (blk_grown (g := gb348) (o := .cells #[.slice A0_0 l0_0.length c0_0, .int .i64 a0_1] 34 (0, 0)) (by (with_reducible repeat (first | refine blk_drewN ?_ _ | refine blk_drew ?_ | refine blk_alloc ?_ _)); refine blk_far ?_ NB348_378.out _; (with_reducible repeat (first | refine blk_drewN ?_ _ | refine blk_drew ?_ | refine blk_alloc ?_ _)); refine blk_far ?_ NB348_378.out _; (with_reducible repeat (first | refine blk_drewN ?_ _ | refine blk_drew ?_ | refine blk_alloc ?_ _)); exact BK348.out) hg (Kd.Q_ne HO_4.out BK348.out (by decide))); replace BK372 := Aside0.mk (blk_grown (g := gb372) (o := .cells #[.int .i64 t359, .int .i64 t360, .int .i64 t361, .slice Ao19 t362.length co19, .slice (some ad377) t365.length co20, .slice Ao21 t368.length co21] 40 (0, 0)) (by (with_reducible repeat (first | refine blk_drewN ?_ _ | refine blk_drew ?_ | refine blk_alloc ?_ _)); refine blk_far ?_ NB372_378.out _; (with_reducible repeat (first | refine blk_drewN ?_ _ | refine blk_drew ?_ | refine blk_alloc ?_ _)); refine blk_far ?_ NB372_378.out _; (with_reducible repeat (first | refine blk_drewN ?_ _ | refine blk_drew ?_ | refine blk_alloc ?_ _)); exact BK372.out) hg (Kd.Q_ne HO_4.out BK372.out (by decide))); replace BK378 := Aside0.mk (blk_grown (g := gb378) (o := .cells #[.string ((rd_T82 t365 x43_3).f0), .int .i64 ((rd_T82 t365 x43_3).f1)] 82 (0, 0)) (by (with_reducible repeat (first | refine blk_drewN ?_ _ | refine blk_drew ?_ | refine blk_alloc ?_ _)); refine blk_put (cs := #[.string ((rd_T82 t365 x43_3).f0), .int .i64 0]) ?_ 1 _ rfl; (with_reducible repeat (first | refine blk_drewN ?_ _ | refine blk_drew ?_ | refine blk_alloc ?_ _)); refine blk_put (cs := #[.string (⟨#[]⟩ : ByteArray), .int .i64 0]) ?_ 0 _ rfl; (with_reducible repeat (first | refine blk_drewN ?_ _ | refine blk_drew ?_ | refine blk_alloc ?_ _)); exact BK378.out) hg (Kd.Q_ne HO_4.out BK378.out (by decide))); replace HB := Aside0.mk (hb); clear HO_4; clear ho hb hg hat))
                 go_roundg k3
                 case measure => have := HK1.out; have := HJ10.out; have := HK3.out; omega
                 case rel => exact ⟨(y379), (wrap64 (x43_3 + 1)), oS, H', ⟨by have := HK1.out; have := HJ10.out; have := HK3.out; omega⟩, ⟨by (with_reducible repeat (first | apply Kd.R_alloc | apply Kd.R_drewN | apply Kd.R_drew)); exact Kd.R_mono HO_3.out (fun _ hk => hk.2)⟩, ⟨by (with_reducible repeat (first | apply Kd.Q_alloc | apply Kd.Q_drewN | apply Kd.Q_drew)); exact HO381.out⟩, ⟨by (with_reducible repeat (first | apply Kd.R_alloc | apply Kd.R_drewN | apply Kd.R_drew)); exact Kd.R_mono HO_41.out (fun _ hk => trivial)⟩, ⟨oR HO_373003⟩, ⟨by (with_reducible repeat (first | apply Kd.R_alloc | apply Kd.R_drewN | apply Kd.R_drew)); exact Kd.R_mono HO_373004.out (fun _ hk => trivial)⟩, ⟨oR HO_373005⟩, ⟨oF BK348⟩, ⟨oF BK372⟩, ⟨oB⟩⟩
                ·rw [if_neg c35] at H
                 exact absurd H (by simp)
               ·cases H
              ·cases H
             ·have H' := Aside0.mk H
              clear H
              go_wp2
              go_roundg k3
              case measure => have := HK1.out; have := HJ10.out; have := HK3.out; omega
              case rel => exact ⟨(y374), (x4_3), H', ⟨by have := HK1.out; have := HJ10.out; have := HK3.out; omega⟩, ⟨oR HO_3⟩, ⟨by (with_reducible repeat (first | apply Kd.Q_alloc | apply Kd.Q_drewN | apply Kd.Q_drew)); exact HO_4.out⟩, ⟨oF BK348⟩, ⟨oB⟩⟩
          ·rw [if_neg c28] at H
           have c28b0 : (t360 == 2) = false := beq_eq_false_iff_ne.mpr c28
           have c28b1 : (t360 != 2) = true := bne_iff_ne.mpr c28
           have H' := Aside0.mk H
           clear H
           go_wp2_with (first | ((with_reducible refine gate_builtin (b := .append) (xs := #[.tmp 33, .tmp 35]) rfl ?_); at_builtin; refine Kd.R_append (Kd.int .i64) (w0 := w) w.heap.size rfl (.tmp 33) (.tmp 35) 47 3 (.int .i64 0) 8 rfl Try.underlying47 info3 rfl (by decide) (by omega) u3 x3_1 (rd x4_1 0) [.int .i64 (rd x4_1 0)] (fun k_ => some k_ ≠ (.slice A13 y356.length c13 : Value).ownBlock) (fun _ => False) rfl rfl ?aP (fun _ hk => hk.elim) ?aF ?aO ?aB ?aS ?aL ?_; (case aP => exact rfl); (case aB => exact oB); (case aF => exact (fun k_ hk => Kd.fresh' (Kd.Q_lt (by (with_reducible repeat (first | apply Kd.Q_alloc | apply Kd.Q_drewN | apply Kd.Q_drew)); exact HO_4.out)) k_ hk)); (case aO => exact (oR HO_3)); (case aS => exact (below_size oB)); (case aL => have := LMc27.out; omega); intro v375 w41 ho hb hg hat; rw [← Ny374.out] at ho; have HO376 := Aside0.mk (ho); replace HO_4 := Aside0.mk (Kd.Q_after (ok := (fun _ => True)) (by (with_reducible repeat (first | apply Kd.Q_alloc | apply Kd.Q_drewN | apply Kd.Q_drew)); exact Kd.Q_mono HO_4.out (fun _ hk => ⟨trivial, hk⟩)) hg hat); replace HO_373003 := Aside0.mk (Kd.R_over' (oR HO_373003) (Kd.R_typed (oR HO_3)) (by decide) hg); replace HO_373004 := Aside0.mk (Kd.R_over' (oR HO_373004) (Kd.R_typed (oR HO_3)) (by decide) hg); replace HO_373005 := Aside0.mk (Kd.R_over' (oR HO_373005) (Kd.R_typed (oR HO_3)) (by decide) hg); replace BK348 := Aside0.mk (blk_grown (g := gb348) (o := .cells #[.slice A0_0 l0_0.length c0_0, .int .i64 a0_1] 34 (0, 0)) (oF BK348) hg (Kd.R_ne HO_3.out BK348.out (by decide))); replace BK372 := Aside0.mk (blk_grown (g := gb372) (o := .cells #[.int .i64 t359, .int .i64 t360, .int .i64 t361, .slice Ao19 t362.length co19, .slice Ao20 t365.length co20, .slice Ao21 t368.length co21] 40 (0, 0)) (oF BK372) hg (Kd.R_ne HO_3.out BK372.out (by decide))); replace HB := Aside0.mk (hb); clear HO_3; clear ho hb hg hat; have hnb42 := NB372_348.out; have hnc42 := NB348_372.out; obtain ⟨⟨_, _, _, _, _, _⟩, _, _, _, _, _, _⟩ := z6 BK372))
           go_roundg kj10
           case measure => have := HK1.out; have := HJ10.out; omega
           case rel => exact ⟨(y374), (y356), H', ⟨by have := HK1.out; have := HJ10.out; omega⟩, ⟨oR HO376⟩, ⟨by (with_reducible repeat (first | apply Kd.Q_alloc | apply Kd.Q_drewN | apply Kd.Q_drew)); exact Kd.Q_mono HO_4.out (fun _ hk => hk.2)⟩, ⟨oF BK348⟩, ⟨oB⟩⟩
         ·rw [if_neg c27] at H
          exact absurd H (by simp)
     ·rw [if_neg c9] at H
      exact absurd H (by simp)
    ·rw [if_neg c8] at H
     exact absurd H (by simp)
   ·rw [if_neg c7] at H
    have c7b0 : decide (0 < (x4_1.length : Int)) = false := decide_eq_false c7
    have c7b1 : decide (0 < x4_1.length) = false := decide_eq_false (by omega)
    clear c7
    split at H
    case isFalse => cases H
    case isTrue hsl_ =>
    obtain rfl := Option.some.inj H
    obtain ⟨Ao44, co44, eo44, _⟩ := Kd.Q_slice HO_4.out
    subst eo44
    obtain ⟨Aq_, cq_, rfl⟩ := Kd.R_slice HO_3.out
    go_wp2_with (go_at_call 59; refine (sortOwn.calls Aq_ cq_ w.heap.size (fun _ => True) x3_1 _ (Kd.R_mono (by (with_reducible repeat (first | apply Kd.R_alloc | apply Kd.R_drewN | apply Kd.R_drew)); exact HO_3.out) (fun _ _ => trivial)) hsl_).mono ?_; rintro e w9_ ⟨rfl, hs_, hg_⟩)
    go_ret
    exact ⟨_, oE, hs_, (oB : Below w.heap.size w _).grown hg_ (below_size oB) (fun k_ hk_ => Kd.R_base hs_ k_ hk_)⟩

/-! ### laws_eqIntS: function 20 -/
def laws_eqIntS.l0 : Nat → List Int → List Int → Int → Option (Bool)
 | 0, _, _, _ => none
 | k + 1, x0, x1, x5 => if x5 < (x0.length : Int) then (if 0 ≤ x5 then (if x5 < (x1.length : Int) then (if (rd x0 x5) = (rd x1 x5) then (laws_eqIntS.l0 k x0 x1 (wrap64 (x5 + 1))) else (some false)) else (none)) else (none)) else (some true)
def laws_eqIntS.f (k : Nat) (l0 : List Int) (l1 : List Int) : Option (Bool) := if (l0.length : Int) = (l1.length : Int) then (laws_eqIntS.l0 k l0 l1 0) else (some false)
set_option maxHeartbeats 8000000 in
set_option maxRecDepth 100000 in
theorem laws_eqIntS.calls (k : Nat) (A0 : Option Addr) (c0 : Nat) (l0 : List Int) (A1 : Option Addr) (c1 : Nat) (l1 : List Int) (r : Bool) (w : World) (hr0 : Kd.C (Kd.int .i64) w A0 l0.length l0) (hc0 : l0.length ≤ c0) (hr1 : Kd.C (Kd.int .i64) w A1 l1.length l1) (hc1 : l1.length ≤ c1) (h : laws_eqIntS.f k l0 l1 = some r) :
  Calls Try.prog 20 #[.slice A0 l0.length c0, .slice A1 l1.length c1] w fun e w' => e = .returned (.bool r) ∧ Drawn0 w w' := by
 have HR0 := Aside0.mk hr0
 have HC0 := Aside0.mk hc0
 clear hr0 hc0
 have HR1 := Aside0.mk hr1
 have HC1 := Aside0.mk hc1
 clear hr1 hc1
 unfold laws_eqIntS.f at h
 have H := h
 clear h
 by_cases c3 : (l0.length : Int) = (l1.length : Int)
 ·rw [if_pos c3] at H
  have c3b0 : ((l0.length : Int) == (l1.length : Int)) = true := beq_iff_eq.mpr c3
  have c3b1 : ((l0.length : Int) != (l1.length : Int)) = false := bne_eq_false_iff_eq.mpr c3
  have c3b2 : (l0.length == l1.length) = true := by first | simpa using c3 | (simp at c3 ⊢; omega)
  clear c3
  have H' := Aside0.mk H
  clear H
  go_enter Try.func20, Try.ntmps20
  go_wp2
  repeat (go_quiet (fail); try go_wp2)
  go_loopg [5] k (fun kq v5 w' => ∃ (x5_1 : Int), v5 = .int .i64 x5_1 ∧ Aside0 (laws_eqIntS.l0 kq l0 l1 x5_1 = some r) ∧ Aside0 (kq ≤ k) ∧ Drawn0 w w')
  case atStart => exact ⟨(0), oS, H', ⟨Nat.le_refl _⟩, oD⟩
  case round =>
   clear H'
   try clear c1
   try clear c3
   obtain ⟨x5_1, rfl, HA, HK1, ⟨m1, rfl⟩⟩ := hrel
   cases gk with
   | zero => exact absurd HA.out (by simp [laws_eqIntS.l0])
   | succ k1 =>
    have H := HA.out
    clear HA
    simp only [laws_eqIntS.l0] at H
    replace H := itD H
    rcases H with ⟨c4b0, H⟩ | ⟨c4b0, H⟩
    ·replace H := itD H
     rcases H with ⟨c5b0, H⟩ | ⟨c5b0, H⟩
     ·replace H := itD H
      rcases H with ⟨c6b0, H⟩ | ⟨c6b0, H⟩
      ·by_cases c7 : (rd l0 x5_1) = (rd l1 x5_1)
       ·rw [if_pos c7] at H
        have c7b0 : ((rd l0 x5_1) == (rd l1 x5_1)) = true := beq_iff_eq.mpr c7
        have c7b1 : ((rd l0 x5_1) != (rd l1 x5_1)) = false := bne_eq_false_iff_eq.mpr c7
        clear c7
        have H' := Aside0.mk H
        clear H
        have p382 : (0 ≤ (x5_1 : Int)) = True := oT
        have q382 : (x5_1 < (l0.length : Int)) = True := oT
        obtain ⟨ad382, e382, hx382_0⟩ := Kd.at_int HR0.out x5_1 oa oa
        cases e382
        have p383 : (0 ≤ (x5_1 : Int)) = True := oT
        have q383 : (x5_1 < (l1.length : Int)) = True := oT
        obtain ⟨ad383, e383, hx383_0⟩ := Kd.at_int HR1.out x5_1 oa oa
        cases e383
        go_wp2
        repeat (go_quiet (fail); try go_wp2)
        go_roundg k1
        case measure => have := HK1.out; omega
        case rel => exact ⟨(wrap64 (x5_1 + 1)), oS, H', ⟨by have := HK1.out; omega⟩, oD⟩
       ·rw [if_neg c7] at H
        have c7b0 : ((rd l0 x5_1) == (rd l1 x5_1)) = false := beq_eq_false_iff_ne.mpr c7
        have c7b1 : ((rd l0 x5_1) != (rd l1 x5_1)) = true := bne_iff_ne.mpr c7
        obtain rfl := Option.some.inj H
        have p382 : (0 ≤ (x5_1 : Int)) = True := oT
        have q382 : (x5_1 < (l0.length : Int)) = True := oT
        obtain ⟨ad382, e382, hx382_0⟩ := Kd.at_int HR0.out x5_1 oa oa
        cases e382
        have p383 : (0 ≤ (x5_1 : Int)) = True := oT
        have q383 : (x5_1 < (l1.length : Int)) = True := oT
        obtain ⟨ad383, e383, hx383_0⟩ := Kd.at_int HR1.out x5_1 oa oa
        cases e383
        go_wp2
        repeat (go_quiet (fail); try go_wp2)
        go_ret
        exact ⟨oS, oD⟩
      ·cases H
     ·cases H
    ·obtain rfl := Option.some.inj H
     go_wp2
     repeat (go_quiet (fail); try go_wp2)
     go_ret
     exact ⟨oS, oD⟩
 ·rw [if_neg c3] at H
  have c3b0 : ((l0.length : Int) == (l1.length : Int)) = false := beq_eq_false_iff_ne.mpr c3
  have c3b1 : ((l0.length : Int) != (l1.length : Int)) = true := bne_iff_ne.mpr c3
  have c3b2 : (l0.length == l1.length) = false := by first | simpa using c3 | (simp at c3 ⊢; omega)
  obtain rfl := Option.some.inj H
  go_enter Try.func20, Try.ntmps20
  go_wp2
  repeat (go_quiet (fail); try go_wp2)
  go_ret
  exact ⟨oS, oD⟩

/-! ### laws_markIntS: function 21 -/
def laws_markIntS.l0 : Nat → List Int → Int → Int → Option (Int × List Int)
 | 0, _, _, _ => none
 | k + 1, x0, x1, x5 => if x5 < (x0.length : Int) then (if 0 ≤ x5 then (laws_markIntS.l0 k (x0.set (x5 : Int).toNat x1) (wrap64 (x1 + 1)) (wrap64 (x5 + 1))) else (none)) else (some (x1, x0))
def laws_markIntS.f (k : Nat) (l0 : List Int) (a1 : Int) : Option (Int × List Int) := laws_markIntS.l0 k l0 a1 0
set_option maxHeartbeats 8000000 in
set_option maxRecDepth 100000 in
theorem laws_markIntS.calls (k : Nat) (P0_ : Nat → Prop) (u9000_ : Value) (l0 : List Int) (a1 : Int) (r1 : Int) (r2 : List Int) (w0 w : World) (hB : Below w0.heap.size w0 w) (ho0 : Kd.R (Kd.int .i64) 3 w w0.heap.size P0_ u9000_ l0) (h : laws_markIntS.f k l0 a1 = some (r1, r2)) :
  Calls Try.prog 21 #[u9000_, .int .i64 a1] w fun e w' => e = .returned (.int .i64 r1) ∧ Kd.R (Kd.int .i64) 3 w' w0.heap.size (fun k_ => (P0_ k_ ∨ w.heap.size ≤ k_)) u9000_ r2 ∧ Below w0.heap.size w0 w' ∧ Kept w w' (fun k_ => P0_ k_) := by
 have HO0 := Aside0.mk (show Kd.R (Kd.int .i64) 3 w w0.heap.size (fun k_ => (P0_ k_ ∨ w.heap.size ≤ k_)) u9000_ l0 from Kd.R_mono ho0 (fun k_ hk => (.inl hk)))
 have HK := Aside0.mk (Kept.refl w (fun k_ => P0_ k_))
 have HW0 := Aside0.mk hB.size
 have HB := Aside0.mk hB
 clear hB
 unfold laws_markIntS.f at h
 have H := h
 clear h
 have H' := Aside0.mk H
 clear H
 go_enter Try.func21, Try.ntmps21
 go_wp2
 go_loopg [1, 5] k (fun kq v1 v5 w' => ∃ (x0_1 : List Int) (x1_1 : Int) (x5_1 : Int), v1 = .int .i64 x1_1 ∧ v5 = .int .i64 x5_1 ∧ Aside0 (laws_markIntS.l0 kq x0_1 x1_1 x5_1 = some (r1, r2)) ∧ Aside0 (kq ≤ k) ∧ Aside0 (Kd.R (Kd.int .i64) 3 w' w0.heap.size (fun k_ => (P0_ k_ ∨ w.heap.size ≤ k_)) u9000_ x0_1) ∧ Aside0 (Kept w w' (fun k_ => P0_ k_)) ∧ Aside0 (Below w0.heap.size w0 w'))
 case atStart => exact ⟨(l0), (a1), (0), oS, oS, H', ⟨Nat.le_refl _⟩, ⟨oR HO0⟩, ⟨oK⟩, ⟨oB⟩⟩
 case round =>
  clear H'
  obtain ⟨x0_1, x1_1, x5_1, rfl, rfl, HA, HK1, HO_0, HK, HB⟩ := hrel
  cases gk with
  | zero => exact absurd HA.out (by simp [laws_markIntS.l0])
  | succ k1 =>
   have H := HA.out
   clear HA
   simp only [laws_markIntS.l0] at H
   replace H := itD H
   rcases H with ⟨c3b0, H⟩ | ⟨c3b0, H⟩
   ·replace H := itD H
    rcases H with ⟨c4b0, H⟩ | ⟨c4b0, H⟩
    ·obtain ⟨y384, hy384⟩ : ∃ y_ : List Int, y_ = (x0_1.set (x5_1 : Int).toNat x1_1) := ⟨_, rfl⟩
     replace H : (laws_markIntS.l0 k1 y384 (wrap64 (x1_1 + 1)) (wrap64 (x5_1 + 1))) = some (r1, r2) := by first | (rw [hy384]; with_reducible exact H) | (have H2_ := (Option.bind_some _ _).symm.trans H; rw [hy384]; with_reducible exact H2_) | (have H2_ := (Option.bind_some _ _).symm.trans H; with_reducible exact H2_) | with_reducible exact H | (rw [hy384]; exact H) | exact H
     have Ny384 := Aside0.mk hy384
     clear hy384
     have H' := Aside0.mk H
     clear H
     obtain ⟨Ao6, co6, eo6⟩ := Kd.R_slice HO_0.out
     subst eo6
     have p5 : 0 ≤ (x5_1 : Int) := oa
     have q5 : (x5_1 : Int) < ((x0_1.length : Int) : Int) := oa
     obtain ⟨go5, co5, eo5, gb5, gl5, cl5, HG5⟩ := Kd.R_form HO_0.out (by omega)
     (first | cases eo5 | (injection eo5 with ea_ en_ ec_; (first | subst ea_ | (injection ea_ with ea_; subst ea_)); subst ec_; clear en_))
     have GB5 := Aside0.mk gb5
     have GG5 := Aside0.mk HG5
     clear gb5 gl5 HG5
     have HMgo5 := Aside0.mk (show (P0_ go5 ∨ w.heap.size ≤ go5) from (HO_0.out.1 _ rfl))
     obtain ⟨hx5_0, hf5_0⟩ := Kd.R_celln 0 HO_0.out (x5_1 : Int) p5 q5
     replace p5 := eq_true p5
     replace q5 := eq_true q5
     have HP7 := Kd.R_putg HO_0.out (x5_1 : Int) x1_1
     go_wp2_with (first | ((with_reducible refine gate_store (t := 3) (p := 15) rfl ?_); refine store_event (t := 3) (p := 15) (v := ?vo_w8) (w1 := (wr.setCell ⟨go5, (x5_1 : Int).toNat, none⟩ (.int .i64 x1_1))) ?hg ?ho ?hn ?hr ?_; (case ho => rfl); (case hg => rfl); (case hn => rfl); (case hr => first | (go_simp; done) | (go_simp; rfl)); intro w8 hw; have hg : wr.grownBy w8 (some go5) := (by rw [hw]; exact HP7.2); have hp_ : Kd.R (Kd.int .i64) 3 w8 w0.heap.size (fun k_ => (P0_ k_ ∨ w.heap.size ≤ k_)) (.slice (some ⟨go5, 0, none⟩) x0_1.length co6) y384 := (by rw [hw, Ny384.out]; exact HP7.1); clear HP7; replace HO_0 := Aside0.mk (hp_); replace HK := Aside0.mk (Kept.of_grown (S := (fun k_ => P0_ k_)) hg oK (fun k_ e_ => (HO_0.out.1 k_ e_))); replace HB := Aside0.mk ((by rw [hw]; exact below_set (HB.out) GB5.out : Below w0.heap.size w0 w8)); clear hg hw hp_))
     go_roundg k1
     case measure => have := HK1.out; omega
     case rel => exact ⟨(y384), (wrap64 (x1_1 + 1)), (wrap64 (x5_1 + 1)), oS, oS, H', ⟨by have := HK1.out; omega⟩, ⟨oR HO_0⟩, ⟨oK⟩, ⟨oB⟩⟩
    ·cases H
   ·simp only [Option.some.injEq, Prod.mk.injEq] at H
    obtain ⟨rfl, rfl⟩ := H
    obtain ⟨Ao9, co9, eo9⟩ := Kd.R_slice HO_0.out
    subst eo9
    go_wp2
    go_ret
    exact ⟨oE, oR HO_0, oB, oK⟩

/-! ### laws_heldIntS: function 22 -/
def laws_heldIntS.l0 : Nat → List Int → Int → Int → Option (Int)
 | 0, _, _, _ => none
 | k + 1, x0, x1, x5 => if x5 < (x0.length : Int) then (if 0 ≤ x5 then (if (rd x0 x5) = x1 then (laws_heldIntS.l0 k x0 (wrap64 (x1 + 1)) (wrap64 (x5 + 1))) else (some (-1))) else (none)) else (some x1)
def laws_heldIntS.f (k : Nat) (l0 : List Int) (a1 : Int) : Option (Int) := laws_heldIntS.l0 k l0 a1 0
set_option maxHeartbeats 8000000 in
set_option maxRecDepth 100000 in
theorem laws_heldIntS.calls (k : Nat) (A0 : Option Addr) (c0 : Nat) (l0 : List Int) (a1 : Int) (r : Int) (w : World) (hr0 : Kd.C (Kd.int .i64) w A0 l0.length l0) (hc0 : l0.length ≤ c0) (h : laws_heldIntS.f k l0 a1 = some r) :
  Calls Try.prog 22 #[.slice A0 l0.length c0, .int .i64 a1] w fun e w' => e = .returned (.int .i64 r) ∧ Drawn0 w w' := by
 have HR0 := Aside0.mk hr0
 have HC0 := Aside0.mk hc0
 clear hr0 hc0
 unfold laws_heldIntS.f at h
 have H := h
 clear h
 have H' := Aside0.mk H
 clear H
 go_enter Try.func22, Try.ntmps22
 go_wp2
 go_loopg [1, 5] k (fun kq v1 v5 w' => ∃ (x1_1 : Int) (x5_1 : Int), v1 = .int .i64 x1_1 ∧ v5 = .int .i64 x5_1 ∧ Aside0 (laws_heldIntS.l0 kq l0 x1_1 x5_1 = some r) ∧ Aside0 (kq ≤ k) ∧ Drawn0 w w')
 case atStart => exact ⟨(a1), (0), oS, oS, H', ⟨Nat.le_refl _⟩, oD⟩
 case round =>
  clear H'
  obtain ⟨x1_1, x5_1, rfl, rfl, HA, HK1, ⟨m1, rfl⟩⟩ := hrel
  cases gk with
  | zero => exact absurd HA.out (by simp [laws_heldIntS.l0])
  | succ k1 =>
   have H := HA.out
   clear HA
   simp only [laws_heldIntS.l0] at H
   replace H := itD H
   rcases H with ⟨c3b0, H⟩ | ⟨c3b0, H⟩
   ·replace H := itD H
    rcases H with ⟨c4b0, H⟩ | ⟨c4b0, H⟩
    ·by_cases c5 : (rd l0 x5_1) = x1_1
     ·rw [if_pos c5] at H
      have c5b0 : ((rd l0 x5_1) == x1_1) = true := beq_iff_eq.mpr c5
      have c5b1 : ((rd l0 x5_1) != x1_1) = false := bne_eq_false_iff_eq.mpr c5
      clear c5
      have H' := Aside0.mk H
      clear H
      have p385 : (0 ≤ (x5_1 : Int)) = True := oT
      have q385 : (x5_1 < (l0.length : Int)) = True := oT
      obtain ⟨ad385, e385, hx385_0⟩ := Kd.at_int HR0.out x5_1 oa oa
      cases e385
      go_wp2
      go_roundg k1
      case measure => have := HK1.out; omega
      case rel => exact ⟨(wrap64 (x1_1 + 1)), (wrap64 (x5_1 + 1)), oS, oS, H', ⟨by have := HK1.out; omega⟩, oD⟩
     ·rw [if_neg c5] at H
      have c5b0 : ((rd l0 x5_1) == x1_1) = false := beq_eq_false_iff_ne.mpr c5
      have c5b1 : ((rd l0 x5_1) != x1_1) = true := bne_iff_ne.mpr c5
      obtain rfl := Option.some.inj H
      have p385 : (0 ≤ (x5_1 : Int)) = True := oT
      have q385 : (x5_1 < (l0.length : Int)) = True := oT
      obtain ⟨ad385, e385, hx385_0⟩ := Kd.at_int HR0.out x5_1 oa oa
      cases e385
      go_wp2
      go_ret
      exact ⟨oS, oD⟩
    ·cases H
   ·obtain rfl := Option.some.inj H
    go_wp2
    go_ret
    exact ⟨oS, oD⟩

/-! ### laws_FnExactReached: function 4 -/
def laws_FnExactReached.T10 : Bool × List (List Nat × List Nat) := (true, [([], []), ([], []), ([1], [1]), ([0, 2, 2], [0, 2]), ([3], [3])])
def laws_FnExactReached.B10 : List Nat := [0, 0, 2, 7, 15]
theorem laws_FnExactReached.tab10 : rtab .any (opsOf Try.f4 10) = laws_FnExactReached.T10 := by kernel_rfl
theorem laws_FnExactReached.bits10 : waitsOk laws_FnExactReached.T10.2 laws_FnExactReached.B10 = true := by kernel_rfl
theorem laws_heldIntS.calls' (k : Nat) (A0 : Option Addr) (c0 n : Nat) (l0 : List Int) (a1 r : Int) (w : World) (hn : l0.length = n) (hr0 : Kd.C (Kd.int .i64) w A0 l0.length l0) (hc0 : l0.length ≤ c0) (h : laws_heldIntS.f k l0 a1 = some r) :
  Calls Try.prog 22 #[.slice A0 n c0, .int .i64 a1] w fun e w' => e = .returned (.int .i64 r) ∧ Drawn0 w w' := by
 subst hn
 exact laws_heldIntS.calls k A0 c0 l0 a1 r w hr0 hc0 h
def laws_FnExactReached.f (k : Nat) (l0_0 : List S29) (a0_1 : Int) : Option Bool :=
 (laws_szTab.f k l0_0 a0_1 1048576).bind fun R => if R < 0 then some true else
 (laws_toTab.f k l0_0 a0_1).bind fun t => (spec_Reached.f k t.1 t.2).bind fun p => (impl_Reached.f k t.1 t.2).bind fun s =>
 (laws_eqIntS.f k s p).bind fun e1 => (laws_eqTab.f k t.1 t.2 t.1 t.2).bind fun e2 => (laws_markInodeS.f k t.1 1).bind fun mt =>
 (laws_markIntS.f k s 1).bind fun m => (laws_heldIntS.f k m.2 1).bind fun q =>
 if e1 = true ∧ e2 = true ∧ ¬ mt.1 < 0 ∧ ¬ q < 0 ∧ q = m.1 ∧ m.2.length = s.length then some true else none
set_option maxHeartbeats 8000000 in
set_option maxRecDepth 100000 in
theorem laws_FnExactReached.calls (k : Nat) (A0_0 : Option Addr) (c0_0 : Nat) (l0_0 : List S29) (a0_1 : Int) (r : Bool) (w : World) (hr0_0 : Kd.C k29 w A0_0 l0_0.length l0_0) (hc0_0 : l0_0.length ≤ c0_0) (h : laws_FnExactReached.f k l0_0 a0_1 = some r) :
  Calls Try.prog 4 #[.agg #[.slice A0_0 l0_0.length c0_0, .int .i64 a0_1]] w fun e w' => e = .returned (.bool r) ∧ Below w.heap.size w w' := by
 have HR0_0 := Aside0.mk hr0_0
 have HC0_0 := Aside0.mk hc0_0
 clear hr0_0 hc0_0
 have HB := Aside0.mk (Below.refl w.heap.size w)
 unfold laws_FnExactReached.f at h
 replace h := bA h
 obtain ⟨R, H1, h⟩ := h
 split at h
 case isTrue hR =>
  have cR : decide (R < 0) = true := decide_eq_true hR
  obtain rfl := Option.some.inj h
  clear h hR
  go_enter Try.func4, Try.ntmps4
  go_wp2_with fail
  refine (laws_szTab.calls k _ _ l0_0 a0_1 1048576 R _ (kC HR0_0) HC0_0.out H1.out).mono ?_
  rintro e w1 ⟨rfl, hb⟩
  replace HB := Aside0.mk (below_step oB hb)
  go_wp2
  go_ret
  exact ⟨rfl, oB⟩
 case isFalse hR =>
 have cR : decide (R < 0) = false := decide_eq_false hR
 clear hR
 replace h := bA h
 obtain ⟨⟨tl, tn⟩, H2, h⟩ := h
 replace h := bA h
 obtain ⟨p1, H3, h⟩ := h
 replace h := bA h
 obtain ⟨s1, H4, h⟩ := h
 replace h := bA h
 obtain ⟨e1, H5, h⟩ := h
 replace h := bA h
 obtain ⟨e2, H6, h⟩ := h
 replace h := bA h
 obtain ⟨⟨mt, ml⟩, H7, h⟩ := h
 replace h := bA h
 obtain ⟨⟨mk, mg⟩, H8, h⟩ := h
 replace h := bA h
 obtain ⟨q, H9, h⟩ := h
 split at h
 case isFalse => cases h
 case isTrue hh =>
 try dsimp only at hh
 obtain ⟨rfl, rfl, hmt, hq, rfl, l4⟩ := hh
 obtain rfl := Option.some.inj h
 clear h
 have cm : decide (mt < 0) = false := decide_eq_false hmt
 have cq : decide (q < 0) = false := decide_eq_false hq
 clear hmt hq
 have L4 := Aside0.mk l4
 clear l4
 try dsimp only at H3 H4 H5 H6 H7 H8 H9 L4
 go_enter Try.func4, Try.ntmps4
 go_wp2_with fail
 refine (laws_szTab.calls k _ _ l0_0 a0_1 1048576 R _ (kC HR0_0) HC0_0.out H1.out).mono ?_
 rintro e w1 ⟨rfl, hb⟩
 have n1 : w.heap.size + 1 ≤ w1.heap.size := by have := hb.size; simpa using this
 have K_aT := bnew hb
 replace hb := bold hb
 replace HB := Aside0.mk (below_step oB hb)
 clear hb
 have Z_aT := z2 K_aT
 have Y_aT := zz2 K_aT
 go_wp2_with fail
 refine (laws_toTab.calls k _ _ l0_0 a0_1 tl tn _ (kC HR0_0) HC0_0.out H2.out).mono ?_
 rintro e w2 ⟨v_t0, rfl, h_t0, hb⟩
 obtain ⟨A_t0, c_t0, rfl⟩ := Kd.S_slice h_t0
 have S_t0 := siv' h_t0 (w1.heap.size) w.heap.size (by simp) (below_size oB)
 clear h_t0
 have n2 : w1.heap.size ≤ w2.heap.size := by have := hb.size; simpa using this
 replace K_aT := bstep K_aT hb
 replace HB := Aside0.mk (below_step oB hb)
 clear hb
 replace Z_aT := z2 K_aT
 replace Y_aT := zz2 K_aT
 go_wp2_with fail
 refine (spec_Reached.calls k _ _ tl tn p1 _ (rS S_t0) (rl S_t0) H3.out).mono ?_
 rintro e w3 ⟨v_w0, rfl, h_w0, hb⟩
 obtain ⟨A_w0, c_w0, rfl⟩ := Kd.R_slice h_w0
 have S_w0 := riv' h_w0 (w2.heap.size) w.heap.size (by simp) (below_size oB)
 clear h_w0
 have n3 : w2.heap.size ≤ w3.heap.size := by have := hb.size; simpa using this
 replace K_aT := bstep K_aT hb
 replace S_t0 := sb S_t0 hb
 replace HB := Aside0.mk (below_step oB hb)
 clear hb
 replace Z_aT := z2 K_aT
 replace Y_aT := zz2 K_aT
 clear S_t0
 go_wp2_with fail
 refine (laws_toTab.calls k _ _ l0_0 a0_1 tl tn _ (kC HR0_0) HC0_0.out H2.out).mono ?_
 rintro e w4 ⟨v_x0, rfl, h_x0, hb⟩
 obtain ⟨A_x0, c_x0, rfl⟩ := Kd.S_slice h_x0
 have S_x0 := siv' h_x0 (w3.heap.size) w.heap.size (by simp) (below_size oB)
 clear h_x0
 have n4 : w3.heap.size ≤ w4.heap.size := by have := hb.size; simpa using this
 replace K_aT := bstep K_aT hb
 replace S_w0 := rb S_w0 hb
 replace HB := Aside0.mk (below_step oB hb)
 clear hb
 replace Z_aT := z2 K_aT
 replace Y_aT := zz2 K_aT
 go_wp2_with fail
 refine (impl_Reached.calls k _ _ tl tn s1 _ (rS S_x0) (rl S_x0) H4.out).mono ?_
 rintro e w5 ⟨v_g0, rfl, h_g0, hb⟩
 obtain ⟨A_g0, c_g0, rfl⟩ := Kd.R_slice h_g0
 have S_g0 := riv' h_g0 (w4.heap.size + 1) w.heap.size (by simp) (below_size oB)
 clear h_g0
 have n5 : w4.heap.size + 1 ≤ w5.heap.size := by have := hb.size; simpa using this
 have K_x0 := bnew hb
 replace hb := bold hb
 replace K_aT := bstep K_aT hb
 replace S_w0 := rb S_w0 hb
 replace S_x0 := sb S_x0 hb
 replace HB := Aside0.mk (below_step oB hb)
 clear hb
 replace Z_aT := z2 K_aT
 replace Y_aT := zz2 K_aT
 have Z_x0 := z2 K_x0
 have Y_x0 := zz2 K_x0
 go_wp2_with fail
 refine (laws_eqIntS.calls k _ _ s1 _ _ p1 true _ (kO S_g0) (rlR S_g0) (kO S_w0) (rlR S_w0) H5.out).mono ?_
 rintro e w6 ⟨rfl, hb⟩
 replace hb := Drawn0.below hb
 have n6 : w5.heap.size ≤ w6.heap.size := by have := hb.size; simpa using this
 replace K_aT := bstep K_aT hb
 replace K_x0 := bstep K_x0 hb
 replace S_w0 := rb S_w0 hb
 replace S_x0 := sb S_x0 hb
 replace S_g0 := rb S_g0 hb
 replace HB := Aside0.mk (below_step oB hb)
 clear hb
 replace Z_aT := z2 K_aT
 replace Y_aT := zz2 K_aT
 replace Z_x0 := z2 K_x0
 replace Y_x0 := zz2 K_x0
 go_wp2_with fail
 replace K_aT := bdrew K_aT
 replace K_x0 := bdrew K_x0
 replace S_w0 := rdrew S_w0
 replace S_x0 := sdrew S_x0
 replace S_g0 := rdrew S_g0
 replace HB := Aside0.mk (below_drew1 HB.out)
 have n7 : w6.heap.size ≤ w6.drew.heap.size := Nat.le_refl _
 clear Z_aT Y_aT Z_x0 Y_x0
 refine st_ 5 (fun w' => w'.cell? ⟨w4.heap.size, 0, none⟩ = some (.slice A_x0 tl.length c_x0) ∧ w'.cell? ⟨w4.heap.size, 1, none⟩ = some (.int .i64 tn) ∧ w'.cell? ⟨w.heap.size, 0, none⟩ = some (.slice A0_0 l0_0.length c0_0) ∧ w'.cell? ⟨w.heap.size, 1, none⟩ = some (.int .i64 a0_1)) laws_FnExactReached.tab10 laws_FnExactReached.bits10 oH (fun hHeld HT_ HW_ => ?_)
 generalize w6.drew = w7 at HB hHeld n7 K_aT K_x0 S_w0 S_x0 S_g0 ⊢
 refine ta_ 0 27 HT_ HW_ hHeld ?_
 refine ta_ 1 28 HT_ HW_ hHeld ?_
 refine on_ 2 29 HT_ (fun K hK => ?_)
 refine gr_ 29 Try.func10 (laws_toTab.calls k _ _ l0_0 a0_1 tl tn _ (kC HR0_0) HC0_0.out H2.out) ?_
 rintro e w8 ⟨v_y0, rfl, h_y0, hb⟩
 obtain ⟨A_y0, c_y0, rfl⟩ := Kd.S_slice h_y0
 have S_y0 := siv' h_y0 (w7.heap.size) w.heap.size (by simp) (below_size oB)
 clear h_y0
 refine ⟨_, rfl, ?_⟩
 have n8 : w7.heap.size ≤ w8.heap.size := by have := hb.size; simpa using this
 replace K_aT := bstep K_aT hb
 replace K_x0 := bstep K_x0 hb
 replace S_w0 := rb S_w0 hb
 replace S_x0 := sb S_x0 hb
 replace S_g0 := rb S_g0 hb
 replace HB := Aside0.mk (below_step oB hb)
 clear hb hHeld
 refine hk_ hK 29 oH (fun hHeld => ?_)
 clear hK K
 refine on_ 3 30 HT_ (fun K hK => ?_)
 refine gr_ 30 Try.func13 (laws_eqTab.calls k _ _ tl tn _ _ tl tn true _ (rS S_x0) (rl S_x0) (rS S_y0) (rl S_y0) H6.out) ?_
 rintro e w9 ⟨rfl, hb⟩
 refine ⟨_, rfl, ?_⟩
 have n9 : w8.heap.size ≤ w9.heap.size := by have := hb.size; simpa using this
 replace K_aT := bstep K_aT hb
 replace K_x0 := bstep K_x0 hb
 replace S_w0 := rb S_w0 hb
 replace S_x0 := sb S_x0 hb
 replace S_g0 := rb S_g0 hb
 replace S_y0 := sb S_y0 hb
 replace HB := Aside0.mk (below_step oB hb)
 clear hb hHeld
 refine hk_ hK 30 oH (fun hHeld => ?_)
 clear hK K
 refine pu_ 4 31 HT_ ?_
 refine dn_ HT_ ?_
 clear hHeld HT_ HW_
 have Z_aT := z2 K_aT
 have Y_aT := zz2 K_aT
 have Z_x0 := z2 K_x0
 have Y_x0 := zz2 K_x0
 clear S_y0
 go_wp2_with fail
 refine (laws_markTab.calls k _ _ tl tn 1 mt ml w _ HB.out S_x0.out H7.out).mono ?_
 rintro e w10 ⟨rfl, h_x0, hb, hk⟩
 have n10 : w9.heap.size ≤ w10.heap.size := hk.1
 replace S_w0 := rk S_w0 hk (fun q h h' => by omega)
 replace S_g0 := rk S_g0 hk (fun q h h' => by omega)
 replace K_aT := bkept K_aT hk (fun h => by omega)
 clear K_x0 Z_x0 Y_x0
 clear S_x0
 clear h_x0
 replace HB := Aside0.mk hb
 clear hb hk
 replace Z_aT := z2 K_aT
 replace Y_aT := zz2 K_aT
 go_wp2_with fail
 refine (laws_eqIntS.calls k _ _ s1 _ _ p1 true _ (kO S_g0) (rlR S_g0) (kO S_w0) (rlR S_w0) H5.out).mono ?_
 rintro e w11 ⟨rfl, hb⟩
 replace hb := Drawn0.below hb
 have n11 : w10.heap.size ≤ w11.heap.size := by have := hb.size; simpa using this
 replace K_aT := bstep K_aT hb
 replace S_w0 := rb S_w0 hb
 replace S_g0 := rb S_g0 hb
 replace HB := Aside0.mk (below_step oB hb)
 clear hb
 replace Z_aT := z2 K_aT
 replace Y_aT := zz2 K_aT
 go_wp2_with fail
 refine (laws_markIntS.calls k _ _ s1 1 q mg w _ HB.out S_g0.out H8.out).mono ?_
 rintro e w12 ⟨rfl, h_g0, hb, hk⟩
 have n12 : w11.heap.size ≤ w12.heap.size := hk.1
 replace S_w0 := rk S_w0 hk (fun q h h' => by omega)
 replace K_aT := bkept K_aT hk (fun h => by omega)
 replace S_g0 := Aside0.mk h_g0
 clear h_g0
 replace HB := Aside0.mk hb
 clear hb hk
 replace Z_aT := z2 K_aT
 replace Y_aT := zz2 K_aT
 go_wp2_with fail
 refine (laws_heldIntS.calls' k _ _ _ mg 1 q _ L4.out (kO S_g0) (rlR S_g0) H9.out).mono ?_
 rintro e w13 ⟨rfl, hb⟩
 replace hb := Drawn0.below hb
 have n13 : w12.heap.size ≤ w13.heap.size := by have := hb.size; simpa using this
 replace K_aT := bstep K_aT hb
 replace S_w0 := rb S_w0 hb
 replace S_g0 := rb S_g0 hb
 replace HB := Aside0.mk (below_step oB hb)
 clear hb
 replace Z_aT := z2 K_aT
 replace Y_aT := zz2 K_aT
 go_wp2_with fail
 refine (laws_toTab.calls k _ _ l0_0 a0_1 tl tn _ (kC HR0_0) HC0_0.out H2.out).mono ?_
 rintro e w14 ⟨v_z0, rfl, h_z0, hb⟩
 obtain ⟨A_z0, c_z0, rfl⟩ := Kd.S_slice h_z0
 have S_z0 := siv' h_z0 (w13.heap.size) w.heap.size (by simp) (below_size oB)
 clear h_z0
 have n14 : w13.heap.size ≤ w14.heap.size := by have := hb.size; simpa using this
 replace K_aT := bstep K_aT hb
 replace S_w0 := rb S_w0 hb
 replace S_g0 := rb S_g0 hb
 replace HB := Aside0.mk (below_step oB hb)
 clear hb
 replace Z_aT := z2 K_aT
 replace Y_aT := zz2 K_aT
 go_wp2_with fail
 refine (impl_Reached.calls k _ _ tl tn s1 _ (rS S_z0) (rl S_z0) H4.out).mono ?_
 rintro e w15 ⟨v_h0, rfl, h_h0, hb⟩
 obtain ⟨A_h0, c_h0, rfl⟩ := Kd.R_slice h_h0
 have S_h0 := riv' h_h0 (w14.heap.size) w.heap.size (by simp) (below_size oB)
 clear h_h0
 have n15 : w14.heap.size ≤ w15.heap.size := by have := hb.size; simpa using this
 replace K_aT := bstep K_aT hb
 replace S_w0 := rb S_w0 hb
 replace S_g0 := rb S_g0 hb
 replace S_z0 := sb S_z0 hb
 replace HB := Aside0.mk (below_step oB hb)
 clear hb
 replace Z_aT := z2 K_aT
 replace Y_aT := zz2 K_aT
 go_wp2_with fail
 refine (laws_eqIntS.calls k _ _ s1 _ _ p1 true _ (kO S_h0) (rlR S_h0) (kO S_w0) (rlR S_w0) H5.out).mono ?_
 rintro e w16 ⟨rfl, hb⟩
 replace hb := Drawn0.below hb
 have n16 : w15.heap.size ≤ w16.heap.size := by have := hb.size; simpa using this
 replace K_aT := bstep K_aT hb
 replace S_w0 := rb S_w0 hb
 replace S_g0 := rb S_g0 hb
 replace S_z0 := sb S_z0 hb
 replace S_h0 := rb S_h0 hb
 replace HB := Aside0.mk (below_step oB hb)
 clear hb
 replace Z_aT := z2 K_aT
 replace Y_aT := zz2 K_aT
 go_wp2_with fail
 refine (laws_heldIntS.calls' k _ _ _ mg 1 q _ L4.out (kO S_g0) (rlR S_g0) H9.out).mono ?_
 rintro e w17 ⟨rfl, hb⟩
 replace hb := Drawn0.below hb
 have n17 : w16.heap.size ≤ w17.heap.size := by have := hb.size; simpa using this
 replace K_aT := bstep K_aT hb
 replace S_w0 := rb S_w0 hb
 replace S_g0 := rb S_g0 hb
 replace S_z0 := sb S_z0 hb
 replace S_h0 := rb S_h0 hb
 replace HB := Aside0.mk (below_step oB hb)
 clear hb
 replace Z_aT := z2 K_aT
 replace Y_aT := zz2 K_aT
 go_wp2_with fail
 go_ret
 exact ⟨rfl, oB⟩
end Go.Proofs.Ytmndnegpclaidaa.P
