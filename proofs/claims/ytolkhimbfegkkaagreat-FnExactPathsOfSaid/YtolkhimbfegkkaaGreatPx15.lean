-- By this session's own program (wip/myprint.py) out of the translation; Lean checks it.
import Derived.Test.YtolkhimbfegkkaaGreatPx0
import Derived.Test.YtolkhimbfegkkaaGreatPx4
import Derived.Test.YtolkhimbfegkkaaGreatPx12
namespace Go.Proofs.YtolkhimbfegkkaaGreat.P
open Go.RowKit Go.Proofs.YtolkhimbfegkkaaGreatW.PrintWords Go.Proofs.YtolkhimbfegkkaaGreatW.PrintLast Go.Proofs.YtolkhimbfegkkaaGreatW.PrintMore
attribute [local go_sem] max2_int min2_int max_two min_two max_three min_three max_four min_four   -- for this text's walks alone
set_option linter.unusedVariables false
set_option linter.unusedSimpArgs false

/-! ### impl_Reached: function 33 -/
mutual
def impl_Reached.l0 : Nat → List Int → List Int → List (S47) → Int → Option (List Int)
 | 0, _, _, _, _ => none
 | k + 1, x3, x4, x405000, x405001 => if (x4.length : Int) > 0 then (if 0 < (x4.length : Int) then (if 1 ≤ (x4.length : Int) then ((some (x4.drop (1 : Int).toNat : List Int)).bind fun y412 => ((impl_InodeAt.f k x405000 x405001 (rd x4 0)).bind fun bt415 => (if bt415.2.2.2.2.2.2 = true then ((slices_Contains_int_int.f x3 (rd x4 0)).bind fun t429 => (impl_Reached.j1 k x3 y412 (rd x4 0) t429 x405000 x405001 bt415.1 bt415.2.1 bt415.2.2.1 bt415.2.2.2.1 bt415.2.2.2.2.1 bt415.2.2.2.2.2.1)) else (impl_Reached.j1 k x3 y412 (rd x4 0) true x405000 x405001 bt415.1 bt415.2.1 bt415.2.2.1 bt415.2.2.2.1 bt415.2.2.2.2.1 bt415.2.2.2.2.2.1)))) else (none)) else (none)) else (if x3.length < 4611686018427387904 then some (sortI x3) else none)
def impl_Reached.j1 : Nat → List Int → List Int → Int → Bool → List (S47) → Int → Int → Int → Int → List Int → List (S63) → List (S87) → Option (List Int)
 | 0, _, _, _, _, _, _, _, _, _, _, _, _ => none
 | k + 1, x3, x4, x5, x32, x405000, x405001, x429000, x429001, x429002, x429003, x429004, x429005 => if x32 = true then (impl_Reached.l0 k x3 x4 x405000 x405001) else (if x3.length < 17592186044416 then ((some (x3 ++ [x5] : List Int)).bind fun y430 => (if x429001 = 2 then (impl_Reached.l1 k y430 x4 x429004 (x429004.length : Int) 0 x405000 x405001) else (impl_Reached.l0 k y430 x4 x405000 x405001))) else (none))
def impl_Reached.l1 : Nat → List Int → List Int → List (S63) → Int → Int → List (S47) → Int → Option (List Int)
 | 0, _, _, _, _, _, _, _ => none
 | k + 1, x3, x4, x41, x42, x43, x405000, x405001 => if x43 < x42 then (if 0 ≤ x43 then (if x43 < (x41.length : Int) then (if x4.length < 17592186044416 then (impl_Reached.l1 k x3 (x4 ++ [(rd_T63 x41 x43).f1]) x41 x42 (wrap64 (x43 + 1)) x405000 x405001) else (none)) else (none)) else (none)) else (impl_Reached.l0 k x3 x4 x405000 x405001)
end
def impl_Reached.f (k : Nat) (l0_0 : List (S47)) (a0_1 : Int) : Option (List Int) := impl_Reached.l0 k (([] : List Int)) (([1] : List Int)) l0_0 a0_1
set_option maxHeartbeats 8000000 in
set_option maxRecDepth 100000 in
theorem impl_Reached.calls (k : Nat) (A0_0 : Option Addr) (c0_0 : Nat) (l0_0 : List (S47)) (a0_1 : Int) (r : List Int) (w : World) (hr0_0 : Kd.C k47 w A0_0 l0_0.length l0_0) (hc0_0 : l0_0.length ≤ c0_0) (h : impl_Reached.f k l0_0 a0_1 = some r) :
  Calls Tryz.prog 33 #[.agg #[.slice A0_0 l0_0.length c0_0, .int .i64 a0_1]] w fun e w' => ∃ v0_ : Value, e = .returned (v0_) ∧ Kd.R (Kd.int .i64) 3 w' w.heap.size (fun _ => True) v0_ r ∧ Below w.heap.size w w' := by
 have hu30 := Tryz.underlying30
 have hu47 := Tryz.underlying47
 have hu63 := Tryz.underlying63
 have HR0_0 := Aside0.mk hr0_0
 have HC0_0 := Aside0.mk hc0_0
 clear hr0_0 hc0_0
 have HB := Aside0.mk (Below.refl w.heap.size w)
 unfold impl_Reached.f at h
 have H := h
 clear h
 obtain ⟨y405, hy405⟩ : ∃ y_ : List Int, y_ = (([] : List Int)) := ⟨_, rfl⟩
 replace H : (impl_Reached.l0 k y405 (([1] : List Int)) l0_0 a0_1) = some r := by first | (rw [hy405]; with_reducible exact H) | (have H2_ := (Option.bind_some _ _).symm.trans H; rw [hy405]; with_reducible exact H2_) | (have H2_ := (Option.bind_some _ _).symm.trans H; with_reducible exact H2_) | with_reducible exact H | (rw [hy405]; exact H) | exact H
 have Ny405 := Aside0.mk hy405
 clear hy405
 obtain ⟨y408, hy408⟩ : ∃ y_ : List Int, y_ = (([1] : List Int)) := ⟨_, rfl⟩
 replace H : (impl_Reached.l0 k y405 y408 l0_0 a0_1) = some r := by first | (rw [hy408]; with_reducible exact H) | (have H2_ := (Option.bind_some _ _).symm.trans H; rw [hy408]; with_reducible exact H2_) | (have H2_ := (Option.bind_some _ _).symm.trans H; with_reducible exact H2_) | with_reducible exact H | (rw [hy408]; exact H) | exact H
 have Ny408 := Aside0.mk hy408
 clear hy408
 have H' := Aside0.mk H
 clear H
 go_enter Tryz.func33, Tryz.ntmps33
 go_wp2_with (first | ((with_reducible refine gate_dst (N := 1) rfl ?_); refine bx_ 1 #[.slice A0_0 l0_0.length c0_0, .int .i64 a0_1] 30 ?_; intro gb404 hg w2 hbox hb; have BK404 := Aside0.mk (hbox); have GW404 := gs_ hg; replace HB := Aside0.mk (below_step oB hb); clear hb hbox hg) | ((with_reducible refine gate_dst (N := 10) rfl ?_); refine Kd.R_lit (Kd.int .i64) _ 3 ?hg (N := 10) ?hd (xs := ([] : List Int)) (inner := []) (ok := fun _ => True) (okp := fun _ => True) ?hr ?hp (fun _ hk => hk) trivial (Below.refl _ _) (Nat.le_refl _) (by simp) ?_; (case hd => rfl); (case hg => rfl); (case hr => first | (go_simp; done) | (go_simp; rfl)); (case hp => exact (Reps.none _ _)); intro v406 w3 ho4 hb hg_ hnew_; clear hg_ hnew_; (first | rw [← Ny405.out] at ho4 | (simp only [Int.reduceToNat] at ho4; rw [← Ny405.out] at ho4)); have HO407 := Aside0.mk (Kd.R_lower ho4 (below_size oB)); replace BK404 := kb_ BK404 hb; replace HB := Aside0.mk (below_step oB hb); clear hb ho4) | ((with_reducible refine gate_dst (N := 11) rfl ?_); refine Kd.R_lit (Kd.int .i64) _ 3 ?hg (N := 11) ?hd (xs := ([1] : List Int)) (inner := [.int .i64 1]) (ok := fun _ => True) (okp := fun _ => True) ?hr ?hp (fun _ hk => hk) trivial (Below.refl _ _) (Nat.le_refl _) (by simp) ?_; (case hd => rfl); (case hg => rfl); (case hr => first | (go_simp; done) | (go_simp; rfl)); (case hp => exact (Reps.one (show Kd.M (Kd.int .i64) _ _ _ 1 [.int .i64 1] from rfl) (Reps.none _ _))); intro v409 w5 ho6 hb hg_ hnew_; clear hg_ hnew_; (first | rw [← Ny408.out] at ho6 | (simp only [Int.reduceToNat] at ho6; rw [← Ny408.out] at ho6)); have HO410 := Aside0.mk (Kd.R_lower (Kd.R_new' ho6 (kl_ HO407)) (below_size oB)); replace HO407 := ke_ HO407 ho6 hb; replace BK404 := kb_ BK404 hb; replace HB := Aside0.mk (below_step oB hb); clear hb ho6))
 go_loopg [3, 4] k (fun kq v3 v4 w' => ∃ (x3_1 : List Int) (x4_1 : List Int), Aside0 (impl_Reached.l0 kq x3_1 x4_1 l0_0 a0_1 = some r) ∧ Aside0 (kq ≤ k) ∧ Aside0 (Kd.R (Kd.int .i64) 3 w' w.heap.size (fun k_ => some k_ ≠ (v4 : Value).ownBlock) v3 x3_1) ∧ Aside0 (Kd.Q (Kd.int .i64) 3 w' w.heap.size (fun k_ => some k_ ≠ (v3 : Value).ownBlock) v4 x4_1) ∧ Aside0 (w'.heap[gb404]? = some (.cells #[(.slice A0_0 l0_0.length c0_0), .int .i64 a0_1] 30 (0, 0))) ∧ Aside0 (Below w.heap.size w w'))
 case atStart => exact ⟨(y405), (y408), H', ⟨Nat.le_refl _⟩, ⟨by (with_reducible repeat (first | apply Kd.R_alloc | apply Kd.R_drewN | apply Kd.R_drew)); exact Kd.R_mono HO407.out (fun _ hk => hk.2)⟩, ⟨Kd.Q_of_R (by (with_reducible repeat (first | apply Kd.R_alloc | apply Kd.R_drewN | apply Kd.R_drew)); exact Kd.R_mono HO410.out (fun _ hk => hk.2))⟩, ⟨oF BK404⟩, ⟨oB⟩⟩
 case round =>
  clear H'
  obtain ⟨x3_1, x4_1, HA, HK1, HO_3, HO_4, BK404, HB⟩ := hrel
  cases gk with
  | zero => exact absurd HA.out (by simp [impl_Reached.l0])
  | succ k1 =>
   have H := HA.out
   clear HA
   simp only [impl_Reached.l0] at H
   by_cases c7 : (x4_1.length : Int) > 0
   ·rw [if_pos c7] at H
    have c7b0 : decide (0 < (x4_1.length : Int)) = true := decide_eq_true c7
    have c7b1 : decide (0 < x4_1.length) = true := decide_eq_true (by omega)
    clear c7
    by_cases c8 : 0 < (x4_1.length : Int)
    ·rw [if_pos c8] at H
     have c8b0 : decide (0 < (x4_1.length : Int)) = true := decide_eq_true c8
     have c8b1 : decide (0 < x4_1.length) = true := decide_eq_true (by omega)
     clear c8
     by_cases c9 : 1 ≤ (x4_1.length : Int)
     ·rw [if_pos c9] at H
      have c9b0 := eq_true c9
      have c9b1 : decide (1 ≤ (x4_1.length : Int)) = true := decide_eq_true c9
      clear c9
      obtain ⟨y412, hy412⟩ : ∃ y_ : List Int, y_ = (x4_1.drop (1 : Int).toNat) := ⟨_, rfl⟩
      replace H : ((impl_InodeAt.f k1 l0_0 a0_1 (rd x4_1 0)).bind fun bt415 => (if bt415.2.2.2.2.2.2 = true then ((slices_Contains_int_int.f x3_1 (rd x4_1 0)).bind fun t429 => (impl_Reached.j1 k1 x3_1 y412 (rd x4_1 0) t429 l0_0 a0_1 bt415.1 bt415.2.1 bt415.2.2.1 bt415.2.2.2.1 bt415.2.2.2.2.1 bt415.2.2.2.2.2.1)) else (impl_Reached.j1 k1 x3_1 y412 (rd x4_1 0) true l0_0 a0_1 bt415.1 bt415.2.1 bt415.2.2.1 bt415.2.2.2.1 bt415.2.2.2.2.1 bt415.2.2.2.2.2.1))) = some r := by first | (rw [hy412]; with_reducible exact H) | (have H2_ := (Option.bind_some _ _).symm.trans H; rw [hy412]; with_reducible exact H2_) | (have H2_ := (Option.bind_some _ _).symm.trans H; with_reducible exact H2_) | with_reducible exact H | (rw [hy412]; exact H) | exact H
      have Ny412 := Aside0.mk hy412
      clear hy412
      replace H := bA H
      obtain ⟨⟨t415, t416, t417, t418, t421, t424, t427⟩, A10, H⟩ := H
      try dsimp only at H
      have HC11 := Aside0.mk H
      clear H
      obtain ⟨Ao12, co12, eo12, _⟩ := Kd.Q_slice HO_4.out
      subst eo12
      have p411 : 0 ≤ (0 : Int) := (by omega)
      have q411 : 0 < (x4_1.length : Int) := oa
      obtain ⟨ad411, e411, hx411_0⟩ := Kd.at_int (Kd.Q_reads' HO_4.out).2.2 0 p411 q411
      cases e411
      have qi411 : (0 < x4_1.length) = True := eq_true (by omega)
      (try rw [show ((0 : Int)).toNat = 0 from rfl] at hx411_0)
      (try rw [Addr.add_zero'] at hx411_0)
      replace p411 := eq_true p411
      replace q411 := eq_true q411
      have q13 : (1 : Int) ≤ ((x4_1.length : Int) : Int) := oa
      obtain ⟨i013, hi013, _, hsz13, _⟩ := info_parts info3
      have hcut13 := cut_from (P := Tryz.prog) 60 3 .i64 Tryz.underlying60 hi013 1 hsz13 (some ad411) x4_1.length co12 1 (by omega) q13
      have hr13 := Kd.Q_drop (k := (1 : Int).toNat) HO_4.out (by omega)
      obtain ⟨A13, hA13⟩ : ∃ A1, A1 = (if co12 = (1 : Int).toNat then (some ad411) else ((some ad411) : Option Addr).map (·.add ((1 : Int).toNat * 1))) := ⟨_, rfl⟩
      obtain ⟨c13, hc13⟩ : ∃ c1, c1 = co12 - (1 : Int).toNat := ⟨_, rfl⟩
      have hy13 : y412.length = x4_1.length - (1 : Int).toNat := (by rw [Ny412.out, List.length_drop])
      rw [← Ny412.out] at hr13
      rw [← hy13, ← hA13, ← hc13] at hcut13
      replace hr13 : Kd.Q (Kd.int .i64) 3 wr w.heap.size (fun k_ => some k_ ≠ (u3 : Value).ownBlock) (.slice A13 y412.length c13) y412 := (by rw [hA13, hc13, hy13]; exact hr13)
      have HE13 : Aside0 ((Value.slice A13 y412.length c13).ownBlock = (.slice (some ad411) x4_1.length co12 : Value).ownBlock) := ⟨by rw [hA13]; split <;> (cases ((some ad411) : Option Addr) <;> rfl)⟩
      clear hy13 hi013 hsz13 HO_4 hA13 hc13
      have HO414 := Aside0.mk hr13
      clear hr13
      replace q13 := eq_true q13
      have n_ := Aside0.mk (Kd.R_mono (ok' := fun k_ => some k_ ≠ (.slice A13 y412.length c13 : Value).ownBlock) HO_3.out (fun k_ hk => (by rw [HE13.out]; exact hk)))
      clear HO_3
      have HO_3 := n_
      clear n_
      obtain ⟨⟨_, _⟩, _, _⟩ := z2 BK404
      go_upto_region 7 with (first | ((with_reducible refine gate_callee (f := 19) rfl ?_); refine gl_ 23 Tryz.func19 (impl_InodeAt.calls k1 _ _ l0_0 a0_1 (rd x4_1 0) t415 t416 t417 t418 t421 t424 t427 _ (kC HR0_0) HC0_0.out A10.out) ?_; rintro e w15 ⟨v419, v422, v425, rfl, ho0, ho1, ho2, hb⟩; refine ⟨_, rfl, ?_⟩; have HO420 := Aside0.mk (Kd.R_lower ho0 (below_size oB)); have HO423 := Aside0.mk (Kd.R_lower ho1 (below_size oB)); have HO426 := Aside0.mk (Kd.R_lower ho2 (below_size oB)); replace HO_3 := kr_ HO_3 hb; replace HO414 := beQ0 HO414 hb; replace BK404 := kb_ BK404 hb; replace HB := Aside0.mk (below_step oB hb); (try clear ho1); (try clear ho2)) | ((with_reducible refine gate_dst (N := 6) rfl ?_); refine bx_ 6 #[.int .i64 0, .int .i64 0, .int .i64 0, .slice none 0 0, .slice none 0 0, .slice none 0 0] 47 ?_; intro gb428 hg w16 hbox hb; have BK428 := Aside0.mk (hbox); have GW428 := gs_ hg; have NB404_428 := nl_ hg BK404; have NB428_404 := nr_ hg BK404; replace HO_3 := kr_ HO_3 hb; replace HO414 := beQ0 HO414 hb; replace HO420 := kr_ HO420 hb; replace HO423 := kr_ HO423 hb; replace HO426 := kr_ HO426 hb; replace BK404 := kb_ BK404 hb; replace HB := Aside0.mk (below_step oB hb); clear hb hbox hg; have hnb17 := NB428_404.out; have hnc17 := NB404_428.out; obtain ⟨⟨_, _, _, _, _, _⟩, _, _, _, _, _, _⟩ := z6 BK428; obtain ⟨Ao19, co19, eo19⟩ := Kd.R_slice HO420.out; subst eo19; obtain ⟨Ao20, co20, eo20⟩ := Kd.R_slice HO423.out; subst eo20; obtain ⟨Ao21, co21, eo21⟩ := Kd.R_slice HO426.out; subst eo21))
      (try simp only [Act.put, List.setIfInBounds_toArray, List.set_cons_zero, List.set_cons_succ])
      go_cut [32] (fun v32 wc => ∃ (kq : Nat) (x32_10 : Bool), v32 = .bool x32_10 ∧ Aside0 (impl_Reached.j1 kq x3_1 y412 (rd x4_1 0) x32_10 l0_0 a0_1 t415 t416 t417 t418 t421 t424 = some r) ∧ Aside0 (kq ≤ k1) ∧ Aside0 (Kd.R (Kd.int .i64) 3 wc w.heap.size (fun k_ => some k_ ≠ ((.slice A13 y412.length c13) : Value).ownBlock) u3 x3_1) ∧ Aside0 (Kd.Q (Kd.int .i64) 3 wc w.heap.size (fun k_ => some k_ ≠ (u3 : Value).ownBlock) (.slice A13 y412.length c13) y412) ∧ Aside0 (Kd.R (Kd.int .u8) 5 wc w.heap.size (fun _ => True) (.slice Ao19 t418.length co19) t418) ∧ Aside0 (Kd.R k63 63 wc w.heap.size (fun _ => True) (.slice Ao20 t421.length co20) t421) ∧ Aside0 (Kd.R k87 87 wc w.heap.size (fun _ => True) (.slice Ao21 t424.length co21) t424) ∧ Aside0 (wc.heap[gb404]? = some (.cells #[(.slice A0_0 l0_0.length c0_0), .int .i64 a0_1] 30 (0, 0))) ∧ Aside0 (wc.heap[gb428]? = some (.cells #[.int .i64 t415, .int .i64 t416, .int .i64 t417, (.slice Ao19 t418.length co19), (.slice Ao20 t421.length co20), (.slice Ao21 t424.length co21)] 47 (0, 0))) ∧ Aside0 (Below w.heap.size w wc))
      case first =>
       have H := HC11.out
       clear HC11
       replace H := itB H
       rcases H with ⟨rfl, H⟩ | ⟨rfl, H⟩
       ·replace H := bA H
        obtain ⟨t429, A23, H⟩ := H
        try dsimp only at H
        have H' := Aside0.mk H
        clear H
        obtain ⟨Ao24, co24, eo24⟩ := Kd.R_slice HO_3.out
        subst eo24
        go_wp2_with (first | (go_at_call 55; (with_reducible refine (slices_Contains_int_int.calls _ _ x3_1 (rd x4_1 0) t429 _ (rcR1 HO_3 BK428) (ko HO_3) A23.out).mono ?_); rintro e w25 ⟨rfl, hb⟩; replace HO_3 := beR1 HO_3 BK428 hb; replace HO414 := beQ1 HO414 BK428 hb; replace HO420 := beR1 HO420 BK428 hb; replace HO423 := beR1 HO423 BK428 hb; replace HO426 := beR1 HO426 BK428 hb; replace BK404 := kb_ BK404 hb; replace BK428 := kp_ #[.int .i64 t415, .int .i64 t416, .int .i64 t417, .slice Ao19 t418.length co19, .slice Ao20 t421.length co20, .slice Ao21 t424.length co21] BK428 hb; replace HB := Aside0.mk (below_step oB hb); (try clear hk)))
        go_meet
        case rel => exact ⟨_, (t429), oS, H', ⟨by have := HK1.out; first | omega | exact Nat.le_refl _⟩, ⟨oR HO_3⟩, ⟨by (with_reducible repeat (first | apply Kd.Q_alloc | apply Kd.Q_drewN | apply Kd.Q_drew)); exact HO414.out⟩, ⟨oR HO420⟩, ⟨oR HO423⟩, ⟨oR HO426⟩, ⟨oF BK404⟩, ⟨oF BK428⟩, ⟨oB⟩⟩
       ·have H' := Aside0.mk H
        clear H
        go_wp2
        go_meet
        case rel => exact ⟨_, (true), oS, H', ⟨by have := HK1.out; first | omega | exact Nat.le_refl _⟩, ⟨by (with_reducible repeat (first | apply Kd.R_alloc | apply Kd.R_drewN | apply Kd.R_drew)); exact Kd.R_mono (Kd.R_far (p := ⟨gb428, 5, none⟩) (Kd.R_far (p := ⟨gb428, 4, none⟩) (Kd.R_far (p := ⟨gb428, 3, none⟩) (Kd.R_far (p := ⟨gb428, 2, none⟩) (Kd.R_far (p := ⟨gb428, 1, none⟩) (Kd.R_far (p := ⟨gb428, 0, none⟩) (Kd.R_types HO_3.out BK428.out (by decide)) (fun _ hk => hk.2) (.int .i64 t415)) (fun _ hk => hk.2) (.int .i64 t416)) (fun _ hk => hk.2) (.int .i64 t417)) (fun _ hk => hk.2) (.slice Ao19 t418.length co19)) (fun _ hk => hk.2) (.slice Ao20 t421.length co20)) (fun _ hk => hk.2) (.slice Ao21 t424.length co21)) (fun _ hk => hk.1)⟩, ⟨by (with_reducible repeat (first | apply Kd.Q_alloc | apply Kd.Q_drewN | apply Kd.Q_drew)); exact Kd.Q_mono (Kd.Q_far (p := ⟨gb428, 5, none⟩) (Kd.Q_far (p := ⟨gb428, 4, none⟩) (Kd.Q_far (p := ⟨gb428, 3, none⟩) (Kd.Q_far (p := ⟨gb428, 2, none⟩) (Kd.Q_far (p := ⟨gb428, 1, none⟩) (Kd.Q_far (p := ⟨gb428, 0, none⟩) (Kd.Q_types HO414.out BK428.out (by decide)) (fun _ hk => hk.2) (.int .i64 t415)) (fun _ hk => hk.2) (.int .i64 t416)) (fun _ hk => hk.2) (.int .i64 t417)) (fun _ hk => hk.2) (.slice Ao19 t418.length co19)) (fun _ hk => hk.2) (.slice Ao20 t421.length co20)) (fun _ hk => hk.2) (.slice Ao21 t424.length co21)) (fun _ hk => hk.1)⟩, ⟨by (with_reducible repeat (first | apply Kd.R_alloc | apply Kd.R_drewN | apply Kd.R_drew)); exact Kd.R_mono (Kd.R_far (p := ⟨gb428, 5, none⟩) (Kd.R_far (p := ⟨gb428, 4, none⟩) (Kd.R_far (p := ⟨gb428, 3, none⟩) (Kd.R_far (p := ⟨gb428, 2, none⟩) (Kd.R_far (p := ⟨gb428, 1, none⟩) (Kd.R_far (p := ⟨gb428, 0, none⟩) (Kd.R_types HO420.out BK428.out (by decide)) (fun _ hk => hk.2) (.int .i64 t415)) (fun _ hk => hk.2) (.int .i64 t416)) (fun _ hk => hk.2) (.int .i64 t417)) (fun _ hk => hk.2) (.slice Ao19 t418.length co19)) (fun _ hk => hk.2) (.slice Ao20 t421.length co20)) (fun _ hk => hk.2) (.slice Ao21 t424.length co21)) (fun _ hk => trivial)⟩, ⟨by (with_reducible repeat (first | apply Kd.R_alloc | apply Kd.R_drewN | apply Kd.R_drew)); exact Kd.R_mono (Kd.R_far (p := ⟨gb428, 5, none⟩) (Kd.R_far (p := ⟨gb428, 4, none⟩) (Kd.R_far (p := ⟨gb428, 3, none⟩) (Kd.R_far (p := ⟨gb428, 2, none⟩) (Kd.R_far (p := ⟨gb428, 1, none⟩) (Kd.R_far (p := ⟨gb428, 0, none⟩) (Kd.R_types HO423.out BK428.out (by decide)) (fun _ hk => hk.2) (.int .i64 t415)) (fun _ hk => hk.2) (.int .i64 t416)) (fun _ hk => hk.2) (.int .i64 t417)) (fun _ hk => hk.2) (.slice Ao19 t418.length co19)) (fun _ hk => hk.2) (.slice Ao20 t421.length co20)) (fun _ hk => hk.2) (.slice Ao21 t424.length co21)) (fun _ hk => trivial)⟩, ⟨by (with_reducible repeat (first | apply Kd.R_alloc | apply Kd.R_drewN | apply Kd.R_drew)); exact Kd.R_mono (Kd.R_far (p := ⟨gb428, 5, none⟩) (Kd.R_far (p := ⟨gb428, 4, none⟩) (Kd.R_far (p := ⟨gb428, 3, none⟩) (Kd.R_far (p := ⟨gb428, 2, none⟩) (Kd.R_far (p := ⟨gb428, 1, none⟩) (Kd.R_far (p := ⟨gb428, 0, none⟩) (Kd.R_types HO426.out BK428.out (by decide)) (fun _ hk => hk.2) (.int .i64 t415)) (fun _ hk => hk.2) (.int .i64 t416)) (fun _ hk => hk.2) (.int .i64 t417)) (fun _ hk => hk.2) (.slice Ao19 t418.length co19)) (fun _ hk => hk.2) (.slice Ao20 t421.length co20)) (fun _ hk => hk.2) (.slice Ao21 t424.length co21)) (fun _ hk => trivial)⟩, ⟨oF BK404⟩, ⟨oP BK428⟩, ⟨oB⟩⟩
      case rest =>
       clear HC11
       try clear c7
       try clear c7b0
       try clear c7b1
       try clear c8
       try clear c8b0
       try clear c8b1
       try clear c9
       obtain ⟨kq, x32_10, rfl, HA, HJ10, HO_3, HO_4, HO_429003, HO_429004, HO_429005, BK404, BK428, HB⟩ := hcut
       cases kq with
       | zero => exact absurd HA.out (by simp [impl_Reached.j1])
       | succ kj10 =>
        have H := HA.out
        clear HA
        simp only [impl_Reached.j1] at H
        replace H := itB H
        rcases H with ⟨rfl, H⟩ | ⟨rfl, H⟩
        ·have H' := Aside0.mk H
         clear H
         go_wp2
         go_roundg kj10
         case measure => have := HK1.out; have := HJ10.out; omega
         case rel => exact ⟨(x3_1), (y412), H', ⟨by have := HK1.out; have := HJ10.out; omega⟩, ⟨oR HO_3⟩, ⟨by (with_reducible repeat (first | apply Kd.Q_alloc | apply Kd.Q_drewN | apply Kd.Q_drew)); exact HO_4.out⟩, ⟨oF BK404⟩, ⟨oB⟩⟩
        ·by_cases c27 : x3_1.length < 17592186044416
         ·rw [if_pos c27] at H
          have LMc27 := Aside0.mk c27
          clear c27
          obtain ⟨y430, hy430⟩ : ∃ y_ : List Int, y_ = (x3_1 ++ [(rd x4_1 0)]) := ⟨_, rfl⟩
          replace H : (if t416 = 2 then (impl_Reached.l1 kj10 y430 y412 t421 (t421.length : Int) 0 l0_0 a0_1) else (impl_Reached.l0 kj10 y430 y412 l0_0 a0_1)) = some r := by first | (rw [hy430]; with_reducible exact H) | (have H2_ := (Option.bind_some _ _).symm.trans H; rw [hy430]; with_reducible exact H2_) | (have H2_ := (Option.bind_some _ _).symm.trans H; with_reducible exact H2_) | with_reducible exact H | (rw [hy430]; exact H) | exact H
          have Ny430 := Aside0.mk hy430
          clear hy430
          by_cases c28 : t416 = 2
          ·rw [if_pos c28] at H
           have c28b0 : (t416 == 2) = true := beq_iff_eq.mpr c28
           have c28b1 : (t416 != 2) = false := bne_eq_false_iff_eq.mpr c28
           clear c28
           have H' := Aside0.mk H
           clear H
           go_wp2_with (first | ((with_reducible refine gate_builtin (b := .append) (xs := #[.tmp 33, .tmp 35]) rfl ?_); at_builtin; refine Kd.R_append (Kd.int .i64) (w0 := w) w.heap.size rfl (.tmp 33) (.tmp 35) 60 3 (.int .i64 0) 8 rfl Tryz.underlying60 info3 rfl (by decide) (by omega) u3 x3_1 (rd x4_1 0) [.int .i64 (rd x4_1 0)] (fun k_ => some k_ ≠ (.slice A13 y412.length c13 : Value).ownBlock) (fun _ => False) rfl rfl ?aP (fun _ hk => hk.elim) ?aF ?aO ?aB ?aS ?aL ?_; (case aP => exact rfl); (case aB => exact oB); (case aF => exact (fun k_ hk => Kd.fresh' (ltQ0 HO_4) k_ hk)); (case aO => exact (oR HO_3)); (case aS => exact (below_size oB)); (case aL => have := LMc27.out; omega); intro v431 w29 ho hb hg hat; rw [← Ny430.out] at ho; have HO432 := Aside0.mk (ho); replace HO_4 := Aside0.mk (Kd.Q_after (ok := (fun _ => True)) (by (with_reducible repeat (first | apply Kd.Q_alloc | apply Kd.Q_drewN | apply Kd.Q_drew)); exact Kd.Q_mono HO_4.out (fun _ hk => ⟨trivial, hk⟩)) hg hat); replace HO_429003 := Aside0.mk (Kd.R_over' (oR HO_429003) (Kd.R_typed (oR HO_3)) (by decide) hg); replace HO_429004 := Aside0.mk (Kd.R_over' (oR HO_429004) (Kd.R_typed (oR HO_3)) (by decide) hg); replace HO_429005 := Aside0.mk (Kd.R_over' (oR HO_429005) (Kd.R_typed (oR HO_3)) (by decide) hg); replace BK404 := Aside0.mk (blk_grown (g := gb404) (o := .cells #[.slice A0_0 l0_0.length c0_0, .int .i64 a0_1] 30 (0, 0)) (oF BK404) hg (Kd.R_ne HO_3.out BK404.out (by decide))); replace BK428 := Aside0.mk (blk_grown (g := gb428) (o := .cells #[.int .i64 t415, .int .i64 t416, .int .i64 t417, .slice Ao19 t418.length co19, .slice Ao20 t421.length co20, .slice Ao21 t424.length co21] 47 (0, 0)) (oF BK428) hg (Kd.R_ne HO_3.out BK428.out (by decide))); replace HB := Aside0.mk (hb); clear HO_3; clear ho hb hg hat; have hnb30 := NB428_404.out; have hnc30 := NB404_428.out; obtain ⟨⟨_, _, _, _, _, _⟩, _, _, _, _, _, _⟩ := z6 BK428))
           go_loopg [4, 43] kj10 (fun kq v4 v43 w' => ∃ (x4_3 : List Int) (x43_3 : Int), v43 = .int .i64 x43_3 ∧ Aside0 (impl_Reached.l1 kq y430 x4_3 t421 (t421.length : Int) x43_3 l0_0 a0_1 = some r) ∧ Aside0 (kq ≤ kj10) ∧ Aside0 (Kd.R (Kd.int .i64) 3 w' w.heap.size (fun k_ => some k_ ≠ (v4 : Value).ownBlock) v431 y430) ∧ Aside0 (Kd.Q (Kd.int .i64) 3 w' w.heap.size (fun k_ => some k_ ≠ (v431 : Value).ownBlock) v4 x4_3) ∧ Aside0 (Kd.R k63 63 w' w.heap.size (fun _ => True) (.slice Ao20 t421.length co20) t421) ∧ Aside0 (Kd.R (Kd.int .u8) 5 w' w.heap.size (fun _ => True) (.slice Ao19 t418.length co19) t418) ∧ Aside0 (Kd.R k63 63 w' w.heap.size (fun _ => True) (.slice Ao20 t421.length co20) t421) ∧ Aside0 (Kd.R k87 87 w' w.heap.size (fun _ => True) (.slice Ao21 t424.length co21) t424) ∧ Aside0 (w'.heap[gb404]? = some (.cells #[(.slice A0_0 l0_0.length c0_0), .int .i64 a0_1] 30 (0, 0))) ∧ Aside0 (w'.heap[gb428]? = some (.cells #[.int .i64 t415, .int .i64 t416, .int .i64 t417, (.slice Ao19 t418.length co19), (.slice Ao20 t421.length co20), (.slice Ao21 t424.length co21)] 47 (0, 0))) ∧ Aside0 (Below w.heap.size w w'))
           case atStart => exact ⟨(y412), (0), oS, H', ⟨Nat.le_refl _⟩, ⟨oR HO432⟩, ⟨by (with_reducible repeat (first | apply Kd.Q_alloc | apply Kd.Q_drewN | apply Kd.Q_drew)); exact Kd.Q_mono HO_4.out (fun _ hk => hk.2)⟩, ⟨oR HO_429004⟩, ⟨oR HO_429003⟩, ⟨oR HO_429004⟩, ⟨oR HO_429005⟩, ⟨oF BK404⟩, ⟨oF BK428⟩, ⟨oB⟩⟩
           case round =>
            clear H'
            try clear c7
            try clear c7b0
            try clear c7b1
            try clear c8
            try clear c8b0
            try clear c8b1
            try clear c9
            try clear c27
            try clear c28
            obtain ⟨x4_3, x43_3, rfl, HA, HK3, HO_3, HO_4, HO_41, HO_429003, HO_429004, HO_429005, BK404, BK428, HB⟩ := hrel
            cases gk with
            | zero => exact absurd HA.out (by simp [impl_Reached.l1])
            | succ k3 =>
             have H := HA.out
             clear HA
             simp only [impl_Reached.l1] at H
             replace H := itD H
             rcases H with ⟨c32b0, H⟩ | ⟨c32b0, H⟩
             ·replace H := itD H
              rcases H with ⟨c33b0, H⟩ | ⟨c33b0, H⟩
              ·replace H := itD H
               rcases H with ⟨c34b0, H⟩ | ⟨c34b0, H⟩
               ·by_cases c35 : x4_3.length < 17592186044416
                ·rw [if_pos c35] at H
                 have LMc35 := Aside0.mk c35
                 clear c35
                 obtain ⟨y435, hy435⟩ : ∃ y_ : List Int, y_ = (x4_3 ++ [(rd_T63 t421 x43_3).f1]) := ⟨_, rfl⟩
                 replace H : (impl_Reached.l1 k3 y430 y435 t421 (t421.length : Int) (wrap64 (x43_3 + 1)) l0_0 a0_1) = some r := by first | (rw [hy435]; with_reducible exact H) | (have H2_ := (Option.bind_some _ _).symm.trans H; rw [hy435]; with_reducible exact H2_) | (have H2_ := (Option.bind_some _ _).symm.trans H; with_reducible exact H2_) | with_reducible exact H | (rw [hy435]; exact H) | exact H
                 have Ny435 := Aside0.mk hy435
                 clear hy435
                 have H' := Aside0.mk H
                 clear H
                 have p433 : (0 ≤ (x43_3 : Int)) = True := oT
                 have q433 : (x43_3 < (t421.length : Int)) = True := oT
                 obtain ⟨ad433, e433, hx433_0, hx433_1⟩ := at_T63 (Kd.R_reads' HO_41.out).2.2 x43_3 oa oa
                 cases e433
                 go_wp2_with (first | ((with_reducible refine gate_dst (N := 9) rfl ?_); refine bx_ 9 #[.string (⟨#[]⟩ : ByteArray), .int .i64 0] 63 ?_; intro gb434 hg w36 hbox hb; have BK434 := Aside0.mk (hbox); have GW434 := gs_ hg; have NB404_434 := nl_ hg BK404; have NB434_404 := nr_ hg BK404; have NB428_434 := nl_ hg BK428; have NB434_428 := nr_ hg BK428; replace HO_3 := kr_ HO_3 hb; replace HO_4 := beQ0 HO_4 hb; replace HO_41 := Aside0.mk (Kd.R_below (Kd.R_elderB (oR HO_41) gb434 (Nat.le_of_eq hg.symm)) hb); replace HO_429003 := kr_ HO_429003 hb; replace HO_429004 := Aside0.mk (Kd.R_below (Kd.R_elderB (oR HO_429004) gb434 (Nat.le_of_eq hg.symm)) hb); replace HO_429005 := kr_ HO_429005 hb; replace BK404 := kb_ BK404 hb; replace BK428 := kb_ BK428 hb; replace HB := Aside0.mk (below_step oB hb); clear hb hbox hg; have hnb37 := NB434_404.out; have hnc37 := NB404_434.out; have hnb38 := NB434_428.out; have hnc38 := NB428_434.out; obtain ⟨⟨_, _⟩, _, _⟩ := z2 BK434) | ((with_reducible refine gate_builtin (b := .append) (xs := #[.tmp 47, .tmp 50]) rfl ?_); at_builtin; refine Kd.Q_append (Kd.int .i64) (w0 := w) w.heap.size rfl (.tmp 47) (.tmp 50) 60 3 (.int .i64 0) 8 rfl Tryz.underlying60 info3 rfl (by decide) (by omega) u4 x4_3 ((rd_T63 t421 x43_3).f1) [.int .i64 ((rd_T63 t421 x43_3).f1)] (fun k_ => some k_ ≠ (v431 : Value).ownBlock) (fun _ => False) rfl (by first | (go_simp; done) | (go_simp; rfl)) ?aP (fun _ hk => hk.elim) ?aF ?aO ?aB ?aS ?aL ?_; (case aP => exact rfl); (case aB => exact oB); (case aF => exact (fun k_ hk => Kd.fresh' (ltR1 HO_3 BK434) k_ hk)); (case aO => exact (by (with_reducible repeat (first | apply Kd.Q_alloc | apply Kd.Q_drewN | apply Kd.Q_drew)); exact Kd.Q_mono (Kd.Q_far (p := ⟨gb434, 1, none⟩) (Kd.Q_far (p := ⟨gb434, 0, none⟩) (Kd.Q_types HO_4.out BK434.out (by decide)) (fun _ hk => hk.2) (.string ((rd_T63 t421 x43_3).f0))) (fun _ hk => hk.2) (.int .i64 ((rd_T63 t421 x43_3).f1))) (fun _ hk => hk.1))); (case aS => exact (below_size oB)); (case aL => have := LMc35.out; omega); intro v436 w40 ho hb hg hat; rw [← Ny435.out] at ho; have HO437 := Aside0.mk (ho); replace HO_3 := Aside0.mk (Kd.R_after (ok := (fun _ => True)) (by (with_reducible repeat (first | apply Kd.R_alloc | apply Kd.R_drewN | apply Kd.R_drew)); exact Kd.R_mono (Kd.R_far (p := ⟨gb434, 1, none⟩) (Kd.R_far (p := ⟨gb434, 0, none⟩) (Kd.R_types HO_3.out BK434.out (by decide)) (fun _ hk => hk.2) (.string ((rd_T63 t421 x43_3).f0))) (fun _ hk => hk.2) (.int .i64 ((rd_T63 t421 x43_3).f1))) (fun _ hk => ⟨trivial, hk.1⟩)) hg hat); replace HO_41 := Aside0.mk (Kd.R_over' (nR2 HO_41 gb434 (fun _ hk => hk.2)) (Kd.Q_typed (nQ1 HO_4 BK434)) (by decide) hg); replace HO_429003 := Aside0.mk (Kd.R_over' (nR1 HO_429003 BK434) (Kd.Q_typed (nQ1 HO_4 BK434)) (by decide) hg); replace HO_429004 := Aside0.mk (Kd.R_over' (nR2 HO_429004 gb434 (fun _ hk => hk.2)) (Kd.Q_typed (nQ1 HO_4 BK434)) (by decide) hg); replace HO_429005 := Aside0.mk (Kd.R_over' (nR1 HO_429005 BK434) (Kd.Q_typed (nQ1 HO_4 BK434)) (by decide) hg); replace BK404 := Aside0.mk (blk_grown (g := gb404) (o := .cells #[.slice A0_0 l0_0.length c0_0, .int .i64 a0_1] 30 (0, 0)) (oF BK404) hg (Kd.Q_ne HO_4.out BK404.out (by decide))); replace BK428 := Aside0.mk (blk_grown (g := gb428) (o := .cells #[.int .i64 t415, .int .i64 t416, .int .i64 t417, .slice Ao19 t418.length co19, .slice (some ad433) t421.length co20, .slice Ao21 t424.length co21] 47 (0, 0)) (oF BK428) hg (Kd.Q_ne HO_4.out BK428.out (by decide))); replace BK434 := Aside0.mk (blk_grown (g := gb434) (o := .cells #[.string ((rd_T63 t421 x43_3).f0), .int .i64 ((rd_T63 t421 x43_3).f1)] 63 (0, 0)) (oP BK434) hg (Kd.Q_ne HO_4.out BK434.out (by decide))); replace HB := Aside0.mk (hb); clear HO_4; clear ho hb hg hat))
                 go_roundg k3
                 case measure => have := HK1.out; have := HJ10.out; have := HK3.out; omega
                 case rel => exact ⟨(y435), (wrap64 (x43_3 + 1)), oS, H', ⟨by have := HK1.out; have := HJ10.out; have := HK3.out; omega⟩, ⟨by (with_reducible repeat (first | apply Kd.R_alloc | apply Kd.R_drewN | apply Kd.R_drew)); exact Kd.R_mono HO_3.out (fun _ hk => hk.2)⟩, ⟨by (with_reducible repeat (first | apply Kd.Q_alloc | apply Kd.Q_drewN | apply Kd.Q_drew)); exact HO437.out⟩, ⟨by (with_reducible repeat (first | apply Kd.R_alloc | apply Kd.R_drewN | apply Kd.R_drew)); exact Kd.R_mono HO_41.out (fun _ hk => trivial)⟩, ⟨oR HO_429003⟩, ⟨by (with_reducible repeat (first | apply Kd.R_alloc | apply Kd.R_drewN | apply Kd.R_drew)); exact Kd.R_mono HO_429004.out (fun _ hk => trivial)⟩, ⟨oR HO_429005⟩, ⟨oF BK404⟩, ⟨oF BK428⟩, ⟨oB⟩⟩
                ·rw [if_neg c35] at H
                 exact absurd H (by simp)
               ·cases H
              ·cases H
             ·have H' := Aside0.mk H
              clear H
              go_wp2
              go_roundg k3
              case measure => have := HK1.out; have := HJ10.out; have := HK3.out; omega
              case rel => exact ⟨(y430), (x4_3), H', ⟨by have := HK1.out; have := HJ10.out; have := HK3.out; omega⟩, ⟨oR HO_3⟩, ⟨by (with_reducible repeat (first | apply Kd.Q_alloc | apply Kd.Q_drewN | apply Kd.Q_drew)); exact HO_4.out⟩, ⟨oF BK404⟩, ⟨oB⟩⟩
          ·rw [if_neg c28] at H
           have c28b0 : (t416 == 2) = false := beq_eq_false_iff_ne.mpr c28
           have c28b1 : (t416 != 2) = true := bne_iff_ne.mpr c28
           have H' := Aside0.mk H
           clear H
           go_wp2_with (first | ((with_reducible refine gate_builtin (b := .append) (xs := #[.tmp 33, .tmp 35]) rfl ?_); at_builtin; refine Kd.R_append (Kd.int .i64) (w0 := w) w.heap.size rfl (.tmp 33) (.tmp 35) 60 3 (.int .i64 0) 8 rfl Tryz.underlying60 info3 rfl (by decide) (by omega) u3 x3_1 (rd x4_1 0) [.int .i64 (rd x4_1 0)] (fun k_ => some k_ ≠ (.slice A13 y412.length c13 : Value).ownBlock) (fun _ => False) rfl rfl ?aP (fun _ hk => hk.elim) ?aF ?aO ?aB ?aS ?aL ?_; (case aP => exact rfl); (case aB => exact oB); (case aF => exact (fun k_ hk => Kd.fresh' (ltQ0 HO_4) k_ hk)); (case aO => exact (oR HO_3)); (case aS => exact (below_size oB)); (case aL => have := LMc27.out; omega); intro v431 w41 ho hb hg hat; rw [← Ny430.out] at ho; have HO432 := Aside0.mk (ho); replace HO_4 := Aside0.mk (Kd.Q_after (ok := (fun _ => True)) (by (with_reducible repeat (first | apply Kd.Q_alloc | apply Kd.Q_drewN | apply Kd.Q_drew)); exact Kd.Q_mono HO_4.out (fun _ hk => ⟨trivial, hk⟩)) hg hat); replace HO_429003 := Aside0.mk (Kd.R_over' (oR HO_429003) (Kd.R_typed (oR HO_3)) (by decide) hg); replace HO_429004 := Aside0.mk (Kd.R_over' (oR HO_429004) (Kd.R_typed (oR HO_3)) (by decide) hg); replace HO_429005 := Aside0.mk (Kd.R_over' (oR HO_429005) (Kd.R_typed (oR HO_3)) (by decide) hg); replace BK404 := Aside0.mk (blk_grown (g := gb404) (o := .cells #[.slice A0_0 l0_0.length c0_0, .int .i64 a0_1] 30 (0, 0)) (oF BK404) hg (Kd.R_ne HO_3.out BK404.out (by decide))); replace BK428 := Aside0.mk (blk_grown (g := gb428) (o := .cells #[.int .i64 t415, .int .i64 t416, .int .i64 t417, .slice Ao19 t418.length co19, .slice Ao20 t421.length co20, .slice Ao21 t424.length co21] 47 (0, 0)) (oF BK428) hg (Kd.R_ne HO_3.out BK428.out (by decide))); replace HB := Aside0.mk (hb); clear HO_3; clear ho hb hg hat; have hnb42 := NB428_404.out; have hnc42 := NB404_428.out; obtain ⟨⟨_, _, _, _, _, _⟩, _, _, _, _, _, _⟩ := z6 BK428))
           go_roundg kj10
           case measure => have := HK1.out; have := HJ10.out; omega
           case rel => exact ⟨(y430), (y412), H', ⟨by have := HK1.out; have := HJ10.out; omega⟩, ⟨oR HO432⟩, ⟨by (with_reducible repeat (first | apply Kd.Q_alloc | apply Kd.Q_drewN | apply Kd.Q_drew)); exact Kd.Q_mono HO_4.out (fun _ hk => hk.2)⟩, ⟨oF BK404⟩, ⟨oB⟩⟩
         ·rw [if_neg c27] at H
          exact absurd H (by simp)
     ·rw [if_neg c9] at H
      exact absurd H (by simp)
    ·rw [if_neg c8] at H
     exact absurd H (by simp)
   ·rw [if_neg c7] at H
    have c7b0 : decide (0 < (x4_1.length : Int)) = false := decide_eq_false c7
    have c7b1 : decide (0 < x4_1.length) = false := decide_eq_false (by omega)
    clear c7
    split at H
    case isFalse => cases H
    case isTrue hsl_ =>
    obtain rfl := Option.some.inj H
    obtain ⟨Ao44, co44, eo44, _⟩ := Kd.Q_slice HO_4.out
    subst eo44
    obtain ⟨Aq_, cq_, rfl⟩ := Kd.R_slice HO_3.out
    go_wp2_with (go_at_call 56; refine (sortOwn.calls Aq_ cq_ w.heap.size (fun _ => True) x3_1 _ (Kd.R_mono (nR0 HO_3) (fun _ _ => trivial)) hsl_).mono ?_; rintro e w9_ ⟨rfl, hs_, hg_⟩)
    go_ret
    exact ⟨_, oE, hs_, (oB : Below w.heap.size w _).grown hg_ (below_size oB) (fun k_ hk_ => Kd.R_base hs_ k_ hk_)⟩

end Go.Proofs.YtolkhimbfegkkaaGreat.P
