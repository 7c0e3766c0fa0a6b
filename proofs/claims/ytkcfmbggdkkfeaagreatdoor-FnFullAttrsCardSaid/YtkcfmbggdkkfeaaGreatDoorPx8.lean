-- By this session's own program (wip/myprint.py) out of the translation; Lean checks it.
import Derived.Test.YtkcfmbggdkkfeaaGreatDoorPx0
import Derived.Test.YtkcfmbggdkkfeaaGreatDoorPx2
import Derived.Test.YtkcfmbggdkkfeaaGreatDoorPx3
import Derived.Test.YtkcfmbggdkkfeaaGreatDoorPx4
import Derived.Test.YtkcfmbggdkkfeaaGreatDoorPx6
namespace Go.Proofs.YtkcfmbggdkkfeaaGreatDoor.P
open Go.RowKit Go.Proofs.YtkcfmbggdkkfeaaGreatDoorW.PrintWords Go.Proofs.YtkcfmbggdkkfeaaGreatDoorW.PrintLast Go.Proofs.YtkcfmbggdkkfeaaGreatDoorW.PrintMore
attribute [local go_sem] max2_int min2_int max_two min_two max_three min_three max_four min_four   -- for this text's walks alone
set_option linter.unusedVariables false
set_option linter.unusedSimpArgs false

/-! ### impl_Reached: function 39 -/
mutual
def impl_Reached.l0 : Nat → List Int → List Int → List (S51) → Int → Option (List Int)
 | 0, _, _, _, _ => none
 | k + 1, x3, x4, x223000, x223001 => if (x4.length : Int) > 0 then (if 0 < (x4.length : Int) then (if 1 ≤ (x4.length : Int) then ((some (x4.drop (1 : Int).toNat : List Int)).bind fun y230 => ((impl_InodeAt.f k x223000 x223001 (rd x4 0)).bind fun bt233 => (if bt233.2.2.2.2.2.2 = true then ((slices_Contains_int_int.f x3 (rd x4 0)).bind fun t247 => (impl_Reached.j1 k x3 y230 (rd x4 0) t247 x223000 x223001 bt233.1 bt233.2.1 bt233.2.2.1 bt233.2.2.2.1 bt233.2.2.2.2.1 bt233.2.2.2.2.2.1)) else (impl_Reached.j1 k x3 y230 (rd x4 0) true x223000 x223001 bt233.1 bt233.2.1 bt233.2.2.1 bt233.2.2.2.1 bt233.2.2.2.2.1 bt233.2.2.2.2.2.1)))) else (none)) else (none)) else (if x3.length < 4611686018427387904 then some (sortI x3) else none)
def impl_Reached.j1 : Nat → List Int → List Int → Int → Bool → List (S51) → Int → Int → Int → Int → List Int → List (S65) → List (S71) → Option (List Int)
 | 0, _, _, _, _, _, _, _, _, _, _, _, _ => none
 | k + 1, x3, x4, x5, x32, x223000, x223001, x247000, x247001, x247002, x247003, x247004, x247005 => if x32 = true then (impl_Reached.l0 k x3 x4 x223000 x223001) else (if x3.length < 17592186044416 then ((some (x3 ++ [x5] : List Int)).bind fun y248 => (if x247001 = 2 then (impl_Reached.l1 k y248 x4 x247004 (x247004.length : Int) 0 x223000 x223001) else (impl_Reached.l0 k y248 x4 x223000 x223001))) else (none))
def impl_Reached.l1 : Nat → List Int → List Int → List (S65) → Int → Int → List (S51) → Int → Option (List Int)
 | 0, _, _, _, _, _, _, _ => none
 | k + 1, x3, x4, x41, x42, x43, x223000, x223001 => if x43 < x42 then (if 0 ≤ x43 then (if x43 < (x41.length : Int) then (if x4.length < 17592186044416 then (impl_Reached.l1 k x3 (x4 ++ [(rd_T65 x41 x43).f1]) x41 x42 (wrap64 (x43 + 1)) x223000 x223001) else (none)) else (none)) else (none)) else (impl_Reached.l0 k x3 x4 x223000 x223001)
end
def impl_Reached.f (k : Nat) (l0_0 : List (S51)) (a0_1 : Int) : Option (List Int) := impl_Reached.l0 k (([] : List Int)) (([1] : List Int)) l0_0 a0_1
set_option maxHeartbeats 8000000 in
set_option maxRecDepth 100000 in
theorem impl_Reached.calls (k : Nat) (A0_0 : Option Addr) (c0_0 : Nat) (l0_0 : List (S51)) (a0_1 : Int) (r : List Int) (w : World) (hr0_0 : Kd.C k51 w A0_0 l0_0.length l0_0) (hc0_0 : l0_0.length ≤ c0_0) (h : impl_Reached.f k l0_0 a0_1 = some r) :
  Calls Tryz.prog 39 #[.agg #[.slice A0_0 l0_0.length c0_0, .int .i64 a0_1]] w fun e w' => ∃ v0_ : Value, e = .returned (v0_) ∧ Kd.R (Kd.int .i64) 3 w' w.heap.size (fun _ => True) v0_ r ∧ Below w.heap.size w w' := by
 have hu26 := Tryz.underlying26
 have hu51 := Tryz.underlying51
 have hu65 := Tryz.underlying65
 have HR0_0 := Aside0.mk hr0_0
 have HC0_0 := Aside0.mk hc0_0
 clear hr0_0 hc0_0
 have HB := Aside0.mk (Below.refl w.heap.size w)
 unfold impl_Reached.f at h
 have H := h
 clear h
 obtain ⟨y223, hy223⟩ : ∃ y_ : List Int, y_ = (([] : List Int)) := ⟨_, rfl⟩
 replace H : (impl_Reached.l0 k y223 (([1] : List Int)) l0_0 a0_1) = some r := by first | (rw [hy223]; with_reducible exact H) | (have H2_ := (Option.bind_some _ _).symm.trans H; rw [hy223]; with_reducible exact H2_) | (have H2_ := (Option.bind_some _ _).symm.trans H; with_reducible exact H2_) | with_reducible exact H | (rw [hy223]; exact H) | exact H
 have Ny223 := Aside0.mk hy223
 clear hy223
 obtain ⟨y226, hy226⟩ : ∃ y_ : List Int, y_ = (([1] : List Int)) := ⟨_, rfl⟩
 replace H : (impl_Reached.l0 k y223 y226 l0_0 a0_1) = some r := by first | (rw [hy226]; with_reducible exact H) | (have H2_ := (Option.bind_some _ _).symm.trans H; rw [hy226]; with_reducible exact H2_) | (have H2_ := (Option.bind_some _ _).symm.trans H; with_reducible exact H2_) | with_reducible exact H | (rw [hy226]; exact H) | exact H
 have Ny226 := Aside0.mk hy226
 clear hy226
 have H' := Aside0.mk H
 clear H
 go_enter Tryz.func39, Tryz.ntmps39
 go_wp2_with (first | ((with_reducible refine gate_dst (N := 1) rfl ?_); refine bx_ 1 #[.slice A0_0 l0_0.length c0_0, .int .i64 a0_1] 26 ?_; intro gb222 hg w2 hbox hb; have BK222 := Aside0.mk (hbox); have GW222 := gs_ hg; replace HB := Aside0.mk (below_step oB hb); clear hb hbox hg) | ((with_reducible refine gate_dst (N := 10) rfl ?_); refine Kd.R_lit (Kd.int .i64) _ 3 ?hg (N := 10) ?hd (xs := ([] : List Int)) (inner := []) (ok := fun _ => True) (okp := fun _ => True) ?hr ?hp (fun _ hk => hk) trivial (Below.refl _ _) (Nat.le_refl _) (by simp) ?_; (case hd => rfl); (case hg => rfl); (case hr => first | (go_simp; done) | (go_simp; rfl)); (case hp => exact (Reps.none _ _)); intro v224 w3 ho4 hb hg_ hnew_; clear hg_ hnew_; (first | rw [← Ny223.out] at ho4 | (simp only [Int.reduceToNat] at ho4; rw [← Ny223.out] at ho4)); have HO225 := Aside0.mk (Kd.R_lower ho4 (below_size oB)); replace BK222 := kb_ BK222 hb; replace HB := Aside0.mk (below_step oB hb); clear hb ho4) | ((with_reducible refine gate_dst (N := 11) rfl ?_); refine Kd.R_lit (Kd.int .i64) _ 3 ?hg (N := 11) ?hd (xs := ([1] : List Int)) (inner := [.int .i64 1]) (ok := fun _ => True) (okp := fun _ => True) ?hr ?hp (fun _ hk => hk) trivial (Below.refl _ _) (Nat.le_refl _) (by simp) ?_; (case hd => rfl); (case hg => rfl); (case hr => first | (go_simp; done) | (go_simp; rfl)); (case hp => exact (Reps.one (show Kd.M (Kd.int .i64) _ _ _ 1 [.int .i64 1] from rfl) (Reps.none _ _))); intro v227 w5 ho6 hb hg_ hnew_; clear hg_ hnew_; (first | rw [← Ny226.out] at ho6 | (simp only [Int.reduceToNat] at ho6; rw [← Ny226.out] at ho6)); have HO228 := Aside0.mk (Kd.R_lower (Kd.R_new' ho6 (kl_ HO225)) (below_size oB)); replace HO225 := ke_ HO225 ho6 hb; replace BK222 := kb_ BK222 hb; replace HB := Aside0.mk (below_step oB hb); clear hb ho6))
 go_loopg [3, 4] k (fun kq v3 v4 w' => ∃ (x3_1 : List Int) (x4_1 : List Int), Aside0 (impl_Reached.l0 kq x3_1 x4_1 l0_0 a0_1 = some r) ∧ Aside0 (kq ≤ k) ∧ Aside0 (Kd.R (Kd.int .i64) 3 w' w.heap.size (fun k_ => some k_ ≠ (v4 : Value).ownBlock) v3 x3_1) ∧ Aside0 (Kd.Q (Kd.int .i64) 3 w' w.heap.size (fun k_ => some k_ ≠ (v3 : Value).ownBlock) v4 x4_1) ∧ Aside0 (w'.heap[gb222]? = some (.cells #[(.slice A0_0 l0_0.length c0_0), .int .i64 a0_1] 26 (0, 0))) ∧ Aside0 (Below w.heap.size w w'))
 case atStart => exact ⟨(y223), (y226), H', ⟨Nat.le_refl _⟩, ⟨by (with_reducible repeat (first | apply Kd.R_alloc | apply Kd.R_drewN | apply Kd.R_drew)); exact Kd.R_mono HO225.out (fun _ hk => hk.2)⟩, ⟨Kd.Q_of_R (by (with_reducible repeat (first | apply Kd.R_alloc | apply Kd.R_drewN | apply Kd.R_drew)); exact Kd.R_mono HO228.out (fun _ hk => hk.2))⟩, ⟨oF BK222⟩, ⟨oB⟩⟩
 case round =>
  clear H'
  obtain ⟨x3_1, x4_1, HA, HK1, HO_3, HO_4, BK222, HB⟩ := hrel
  cases gk with
  | zero => exact absurd HA.out (by simp [impl_Reached.l0])
  | succ k1 =>
   have H := HA.out
   clear HA
   simp only [impl_Reached.l0] at H
   by_cases c7 : (x4_1.length : Int) > 0
   ·rw [if_pos c7] at H
    have c7b0 : decide (0 < (x4_1.length : Int)) = true := decide_eq_true c7
    have c7b1 : decide (0 < x4_1.length) = true := decide_eq_true (by omega)
    clear c7
    by_cases c8 : 0 < (x4_1.length : Int)
    ·rw [if_pos c8] at H
     have c8b0 : decide (0 < (x4_1.length : Int)) = true := decide_eq_true c8
     have c8b1 : decide (0 < x4_1.length) = true := decide_eq_true (by omega)
     clear c8
     by_cases c9 : 1 ≤ (x4_1.length : Int)
     ·rw [if_pos c9] at H
      have c9b0 := eq_true c9
      have c9b1 : decide (1 ≤ (x4_1.length : Int)) = true := decide_eq_true c9
      clear c9
      obtain ⟨y230, hy230⟩ : ∃ y_ : List Int, y_ = (x4_1.drop (1 : Int).toNat) := ⟨_, rfl⟩
      replace H : ((impl_InodeAt.f k1 l0_0 a0_1 (rd x4_1 0)).bind fun bt233 => (if bt233.2.2.2.2.2.2 = true then ((slices_Contains_int_int.f x3_1 (rd x4_1 0)).bind fun t247 => (impl_Reached.j1 k1 x3_1 y230 (rd x4_1 0) t247 l0_0 a0_1 bt233.1 bt233.2.1 bt233.2.2.1 bt233.2.2.2.1 bt233.2.2.2.2.1 bt233.2.2.2.2.2.1)) else (impl_Reached.j1 k1 x3_1 y230 (rd x4_1 0) true l0_0 a0_1 bt233.1 bt233.2.1 bt233.2.2.1 bt233.2.2.2.1 bt233.2.2.2.2.1 bt233.2.2.2.2.2.1))) = some r := by first | (rw [hy230]; with_reducible exact H) | (have H2_ := (Option.bind_some _ _).symm.trans H; rw [hy230]; with_reducible exact H2_) | (have H2_ := (Option.bind_some _ _).symm.trans H; with_reducible exact H2_) | with_reducible exact H | (rw [hy230]; exact H) | exact H
      have Ny230 := Aside0.mk hy230
      clear hy230
      replace H := bA H
      obtain ⟨⟨t233, t234, t235, t236, t239, t242, t245⟩, A10, H⟩ := H
      try dsimp only at H
      have HC11 := Aside0.mk H
      clear H
      obtain ⟨Ao12, co12, eo12, _⟩ := Kd.Q_slice HO_4.out
      subst eo12
      have p229 : 0 ≤ (0 : Int) := (by omega)
      have q229 : 0 < (x4_1.length : Int) := oa
      obtain ⟨ad229, e229, hx229_0⟩ := Kd.at_int (Kd.Q_reads' HO_4.out).2.2 0 p229 q229
      cases e229
      have qi229 : (0 < x4_1.length) = True := eq_true (by omega)
      (try rw [show ((0 : Int)).toNat = 0 from rfl] at hx229_0)
      (try rw [Addr.add_zero'] at hx229_0)
      replace p229 := eq_true p229
      replace q229 := eq_true q229
      have q13 : (1 : Int) ≤ ((x4_1.length : Int) : Int) := oa
      obtain ⟨i013, hi013, _, hsz13, _⟩ := info_parts info3
      have hcut13 := cut_from (P := Tryz.prog) 61 3 .i64 Tryz.underlying61 hi013 1 hsz13 (some ad229) x4_1.length co12 1 (by omega) q13
      have hr13 := Kd.Q_drop (k := (1 : Int).toNat) HO_4.out (by omega)
      obtain ⟨A13, hA13⟩ : ∃ A1, A1 = (if co12 = (1 : Int).toNat then (some ad229) else ((some ad229) : Option Addr).map (·.add ((1 : Int).toNat * 1))) := ⟨_, rfl⟩
      obtain ⟨c13, hc13⟩ : ∃ c1, c1 = co12 - (1 : Int).toNat := ⟨_, rfl⟩
      have hy13 : y230.length = x4_1.length - (1 : Int).toNat := (by rw [Ny230.out, List.length_drop])
      rw [← Ny230.out] at hr13
      rw [← hy13, ← hA13, ← hc13] at hcut13
      replace hr13 : Kd.Q (Kd.int .i64) 3 wr w.heap.size (fun k_ => some k_ ≠ (u3 : Value).ownBlock) (.slice A13 y230.length c13) y230 := (by rw [hA13, hc13, hy13]; exact hr13)
      have HE13 : Aside0 ((Value.slice A13 y230.length c13).ownBlock = (.slice (some ad229) x4_1.length co12 : Value).ownBlock) := ⟨by rw [hA13]; split <;> (cases ((some ad229) : Option Addr) <;> rfl)⟩
      clear hy13 hi013 hsz13 HO_4 hA13 hc13
      have HO232 := Aside0.mk hr13
      clear hr13
      replace q13 := eq_true q13
      have n_ := Aside0.mk (Kd.R_mono (ok' := fun k_ => some k_ ≠ (.slice A13 y230.length c13 : Value).ownBlock) HO_3.out (fun k_ hk => (by rw [HE13.out]; exact hk)))
      clear HO_3
      have HO_3 := n_
      clear n_
      obtain ⟨⟨_, _⟩, _, _⟩ := z2 BK222
      go_upto_region 7 with (first | ((with_reducible refine gate_callee (f := 42) rfl ?_); refine gl_ 23 Tryz.func42 (impl_InodeAt.calls k1 _ _ l0_0 a0_1 (rd x4_1 0) t233 t234 t235 t236 t239 t242 t245 _ (kC HR0_0) HC0_0.out A10.out) ?_; rintro e w15 ⟨v237, v240, v243, rfl, ho0, ho1, ho2, hb⟩; refine ⟨_, rfl, ?_⟩; have HO238 := Aside0.mk (Kd.R_lower ho0 (below_size oB)); have HO241 := Aside0.mk (Kd.R_lower ho1 (below_size oB)); have HO244 := Aside0.mk (Kd.R_lower ho2 (below_size oB)); replace HO_3 := kr_ HO_3 hb; replace HO232 := beQ0 HO232 hb; replace BK222 := kb_ BK222 hb; replace HB := Aside0.mk (below_step oB hb); (try clear ho1); (try clear ho2)) | ((with_reducible refine gate_dst (N := 6) rfl ?_); refine bx_ 6 #[.int .i64 0, .int .i64 0, .int .i64 0, .slice none 0 0, .slice none 0 0, .slice none 0 0] 51 ?_; intro gb246 hg w16 hbox hb; have BK246 := Aside0.mk (hbox); have GW246 := gs_ hg; have NB222_246 := nl_ hg BK222; have NB246_222 := nr_ hg BK222; replace HO_3 := kr_ HO_3 hb; replace HO232 := beQ0 HO232 hb; replace HO238 := kr_ HO238 hb; replace HO241 := kr_ HO241 hb; replace HO244 := kr_ HO244 hb; replace BK222 := kb_ BK222 hb; replace HB := Aside0.mk (below_step oB hb); clear hb hbox hg; have hnb17 := NB246_222.out; have hnc17 := NB222_246.out; obtain ⟨⟨_, _, _, _, _, _⟩, _, _, _, _, _, _⟩ := z6 BK246; obtain ⟨Ao19, co19, eo19⟩ := Kd.R_slice HO238.out; subst eo19; obtain ⟨Ao20, co20, eo20⟩ := Kd.R_slice HO241.out; subst eo20; obtain ⟨Ao21, co21, eo21⟩ := Kd.R_slice HO244.out; subst eo21))
      (try simp only [Act.put, List.setIfInBounds_toArray, List.set_cons_zero, List.set_cons_succ])
      go_cut [32] (fun v32 wc => ∃ (kq : Nat) (x32_10 : Bool), v32 = .bool x32_10 ∧ Aside0 (impl_Reached.j1 kq x3_1 y230 (rd x4_1 0) x32_10 l0_0 a0_1 t233 t234 t235 t236 t239 t242 = some r) ∧ Aside0 (kq ≤ k1) ∧ Aside0 (Kd.R (Kd.int .i64) 3 wc w.heap.size (fun k_ => some k_ ≠ ((.slice A13 y230.length c13) : Value).ownBlock) u3 x3_1) ∧ Aside0 (Kd.Q (Kd.int .i64) 3 wc w.heap.size (fun k_ => some k_ ≠ (u3 : Value).ownBlock) (.slice A13 y230.length c13) y230) ∧ Aside0 (Kd.R (Kd.int .u8) 5 wc w.heap.size (fun _ => True) (.slice Ao19 t236.length co19) t236) ∧ Aside0 (Kd.R k65 65 wc w.heap.size (fun _ => True) (.slice Ao20 t239.length co20) t239) ∧ Aside0 (Kd.R k71 71 wc w.heap.size (fun _ => True) (.slice Ao21 t242.length co21) t242) ∧ Aside0 (wc.heap[gb222]? = some (.cells #[(.slice A0_0 l0_0.length c0_0), .int .i64 a0_1] 26 (0, 0))) ∧ Aside0 (wc.heap[gb246]? = some (.cells #[.int .i64 t233, .int .i64 t234, .int .i64 t235, (.slice Ao19 t236.length co19), (.slice Ao20 t239.length co20), (.slice Ao21 t242.length co21)] 51 (0, 0))) ∧ Aside0 (Below w.heap.size w wc))
      case first =>
       have H := HC11.out
       clear HC11
       replace H := itB H
       rcases H with ⟨rfl, H⟩ | ⟨rfl, H⟩
       ·replace H := bA H
        obtain ⟨t247, A23, H⟩ := H
        try dsimp only at H
        have H' := Aside0.mk H
        clear H
        obtain ⟨Ao24, co24, eo24⟩ := Kd.R_slice HO_3.out
        subst eo24
        go_wp2_with (first | (go_at_call 67; (with_reducible refine (slices_Contains_int_int.calls _ _ x3_1 (rd x4_1 0) t247 _ (rcR1 HO_3 BK246) (ko HO_3) A23.out).mono ?_); rintro e w25 ⟨rfl, hb⟩; replace HO_3 := beR1 HO_3 BK246 hb; replace HO232 := beQ1 HO232 BK246 hb; replace HO238 := beR1 HO238 BK246 hb; replace HO241 := beR1 HO241 BK246 hb; replace HO244 := beR1 HO244 BK246 hb; replace BK222 := kb_ BK222 hb; replace BK246 := kp_ #[.int .i64 t233, .int .i64 t234, .int .i64 t235, .slice Ao19 t236.length co19, .slice Ao20 t239.length co20, .slice Ao21 t242.length co21] BK246 hb; replace HB := Aside0.mk (below_step oB hb); (try clear hk)))
        go_meet
        case rel => exact ⟨_, (t247), oS, H', ⟨by have := HK1.out; first | omega | exact Nat.le_refl _⟩, ⟨oR HO_3⟩, ⟨by (with_reducible repeat (first | apply Kd.Q_alloc | apply Kd.Q_drewN | apply Kd.Q_drew)); exact HO232.out⟩, ⟨oR HO238⟩, ⟨oR HO241⟩, ⟨oR HO244⟩, ⟨oF BK222⟩, ⟨oF BK246⟩, ⟨oB⟩⟩
       ·have H' := Aside0.mk H
        clear H
        go_wp2
        go_meet
        case rel => exact ⟨_, (true), oS, H', ⟨by have := HK1.out; first | omega | exact Nat.le_refl _⟩, ⟨by (with_reducible repeat (first | apply Kd.R_alloc | apply Kd.R_drewN | apply Kd.R_drew)); exact Kd.R_mono (Kd.R_far (p := ⟨gb246, 5, none⟩) (Kd.R_far (p := ⟨gb246, 4, none⟩) (Kd.R_far (p := ⟨gb246, 3, none⟩) (Kd.R_far (p := ⟨gb246, 2, none⟩) (Kd.R_far (p := ⟨gb246, 1, none⟩) (Kd.R_far (p := ⟨gb246, 0, none⟩) (Kd.R_types HO_3.out BK246.out (by decide)) (fun _ hk => hk.2) (.int .i64 t233)) (fun _ hk => hk.2) (.int .i64 t234)) (fun _ hk => hk.2) (.int .i64 t235)) (fun _ hk => hk.2) (.slice Ao19 t236.length co19)) (fun _ hk => hk.2) (.slice Ao20 t239.length co20)) (fun _ hk => hk.2) (.slice Ao21 t242.length co21)) (fun _ hk => hk.1)⟩, ⟨by (with_reducible repeat (first | apply Kd.Q_alloc | apply Kd.Q_drewN | apply Kd.Q_drew)); exact Kd.Q_mono (Kd.Q_far (p := ⟨gb246, 5, none⟩) (Kd.Q_far (p := ⟨gb246, 4, none⟩) (Kd.Q_far (p := ⟨gb246, 3, none⟩) (Kd.Q_far (p := ⟨gb246, 2, none⟩) (Kd.Q_far (p := ⟨gb246, 1, none⟩) (Kd.Q_far (p := ⟨gb246, 0, none⟩) (Kd.Q_types HO232.out BK246.out (by decide)) (fun _ hk => hk.2) (.int .i64 t233)) (fun _ hk => hk.2) (.int .i64 t234)) (fun _ hk => hk.2) (.int .i64 t235)) (fun _ hk => hk.2) (.slice Ao19 t236.length co19)) (fun _ hk => hk.2) (.slice Ao20 t239.length co20)) (fun _ hk => hk.2) (.slice Ao21 t242.length co21)) (fun _ hk => hk.1)⟩, ⟨by (with_reducible repeat (first | apply Kd.R_alloc | apply Kd.R_drewN | apply Kd.R_drew)); exact Kd.R_mono (Kd.R_far (p := ⟨gb246, 5, none⟩) (Kd.R_far (p := ⟨gb246, 4, none⟩) (Kd.R_far (p := ⟨gb246, 3, none⟩) (Kd.R_far (p := ⟨gb246, 2, none⟩) (Kd.R_far (p := ⟨gb246, 1, none⟩) (Kd.R_far (p := ⟨gb246, 0, none⟩) (Kd.R_types HO238.out BK246.out (by decide)) (fun _ hk => hk.2) (.int .i64 t233)) (fun _ hk => hk.2) (.int .i64 t234)) (fun _ hk => hk.2) (.int .i64 t235)) (fun _ hk => hk.2) (.slice Ao19 t236.length co19)) (fun _ hk => hk.2) (.slice Ao20 t239.length co20)) (fun _ hk => hk.2) (.slice Ao21 t242.length co21)) (fun _ hk => trivial)⟩, ⟨by (with_reducible repeat (first | apply Kd.R_alloc | apply Kd.R_drewN | apply Kd.R_drew)); exact Kd.R_mono (Kd.R_far (p := ⟨gb246, 5, none⟩) (Kd.R_far (p := ⟨gb246, 4, none⟩) (Kd.R_far (p := ⟨gb246, 3, none⟩) (Kd.R_far (p := ⟨gb246, 2, none⟩) (Kd.R_far (p := ⟨gb246, 1, none⟩) (Kd.R_far (p := ⟨gb246, 0, none⟩) (Kd.R_types HO241.out BK246.out (by decide)) (fun _ hk => hk.2) (.int .i64 t233)) (fun _ hk => hk.2) (.int .i64 t234)) (fun _ hk => hk.2) (.int .i64 t235)) (fun _ hk => hk.2) (.slice Ao19 t236.length co19)) (fun _ hk => hk.2) (.slice Ao20 t239.length co20)) (fun _ hk => hk.2) (.slice Ao21 t242.length co21)) (fun _ hk => trivial)⟩, ⟨by (with_reducible repeat (first | apply Kd.R_alloc | apply Kd.R_drewN | apply Kd.R_drew)); exact Kd.R_mono (Kd.R_far (p := ⟨gb246, 5, none⟩) (Kd.R_far (p := ⟨gb246, 4, none⟩) (Kd.R_far (p := ⟨gb246, 3, none⟩) (Kd.R_far (p := ⟨gb246, 2, none⟩) (Kd.R_far (p := ⟨gb246, 1, none⟩) (Kd.R_far (p := ⟨gb246, 0, none⟩) (Kd.R_types HO244.out BK246.out (by decide)) (fun _ hk => hk.2) (.int .i64 t233)) (fun _ hk => hk.2) (.int .i64 t234)) (fun _ hk => hk.2) (.int .i64 t235)) (fun _ hk => hk.2) (.slice Ao19 t236.length co19)) (fun _ hk => hk.2) (.slice Ao20 t239.length co20)) (fun _ hk => hk.2) (.slice Ao21 t242.length co21)) (fun _ hk => trivial)⟩, ⟨oF BK222⟩, ⟨oP BK246⟩, ⟨oB⟩⟩
      case rest =>
       clear HC11
       try clear c7
       try clear c7b0
       try clear c7b1
       try clear c8
       try clear c8b0
       try clear c8b1
       try clear c9
       obtain ⟨kq, x32_10, rfl, HA, HJ10, HO_3, HO_4, HO_247003, HO_247004, HO_247005, BK222, BK246, HB⟩ := hcut
       cases kq with
       | zero => exact absurd HA.out (by simp [impl_Reached.j1])
       | succ kj10 =>
        have H := HA.out
        clear HA
        simp only [impl_Reached.j1] at H
        replace H := itB H
        rcases H with ⟨rfl, H⟩ | ⟨rfl, H⟩
        ·have H' := Aside0.mk H
         clear H
         go_wp2
         go_roundg kj10
         case measure => have := HK1.out; have := HJ10.out; omega
         case rel => exact ⟨(x3_1), (y230), H', ⟨by have := HK1.out; have := HJ10.out; omega⟩, ⟨oR HO_3⟩, ⟨by (with_reducible repeat (first | apply Kd.Q_alloc | apply Kd.Q_drewN | apply Kd.Q_drew)); exact HO_4.out⟩, ⟨oF BK222⟩, ⟨oB⟩⟩
        ·by_cases c27 : x3_1.length < 17592186044416
         ·rw [if_pos c27] at H
          have LMc27 := Aside0.mk c27
          clear c27
          obtain ⟨y248, hy248⟩ : ∃ y_ : List Int, y_ = (x3_1 ++ [(rd x4_1 0)]) := ⟨_, rfl⟩
          replace H : (if t234 = 2 then (impl_Reached.l1 kj10 y248 y230 t239 (t239.length : Int) 0 l0_0 a0_1) else (impl_Reached.l0 kj10 y248 y230 l0_0 a0_1)) = some r := by first | (rw [hy248]; with_reducible exact H) | (have H2_ := (Option.bind_some _ _).symm.trans H; rw [hy248]; with_reducible exact H2_) | (have H2_ := (Option.bind_some _ _).symm.trans H; with_reducible exact H2_) | with_reducible exact H | (rw [hy248]; exact H) | exact H
          have Ny248 := Aside0.mk hy248
          clear hy248
          by_cases c28 : t234 = 2
          ·rw [if_pos c28] at H
           have c28b0 : (t234 == 2) = true := beq_iff_eq.mpr c28
           have c28b1 : (t234 != 2) = false := bne_eq_false_iff_eq.mpr c28
           clear c28
           have H' := Aside0.mk H
           clear H
           go_wp2_with (first | ((with_reducible refine gate_builtin (b := .append) (xs := #[.tmp 33, .tmp 35]) rfl ?_); at_builtin; refine Kd.R_append (Kd.int .i64) (w0 := w) w.heap.size rfl (.tmp 33) (.tmp 35) 61 3 (.int .i64 0) 8 rfl Tryz.underlying61 info3 rfl (by decide) (by omega) u3 x3_1 (rd x4_1 0) [.int .i64 (rd x4_1 0)] (fun k_ => some k_ ≠ (.slice A13 y230.length c13 : Value).ownBlock) (fun _ => False) rfl rfl ?aP (fun _ hk => hk.elim) ?aF ?aO ?aB ?aS ?aL ?_; (case aP => exact rfl); (case aB => exact oB); (case aF => exact (fun k_ hk => Kd.fresh' (ltQ0 HO_4) k_ hk)); (case aO => exact (oR HO_3)); (case aS => exact (below_size oB)); (case aL => have := LMc27.out; omega); intro v249 w29 ho hb hg hat; rw [← Ny248.out] at ho; have HO250 := Aside0.mk (ho); replace HO_4 := Aside0.mk (Kd.Q_after (ok := (fun _ => True)) (by (with_reducible repeat (first | apply Kd.Q_alloc | apply Kd.Q_drewN | apply Kd.Q_drew)); exact Kd.Q_mono HO_4.out (fun _ hk => ⟨trivial, hk⟩)) hg hat); replace HO_247003 := Aside0.mk (Kd.R_over' (oR HO_247003) (Kd.R_typed (oR HO_3)) (by decide) hg); replace HO_247004 := Aside0.mk (Kd.R_over' (oR HO_247004) (Kd.R_typed (oR HO_3)) (by decide) hg); replace HO_247005 := Aside0.mk (Kd.R_over' (oR HO_247005) (Kd.R_typed (oR HO_3)) (by decide) hg); replace BK222 := Aside0.mk (blk_grown (g := gb222) (o := .cells #[.slice A0_0 l0_0.length c0_0, .int .i64 a0_1] 26 (0, 0)) (oF BK222) hg (Kd.R_ne HO_3.out BK222.out (by decide))); replace BK246 := Aside0.mk (blk_grown (g := gb246) (o := .cells #[.int .i64 t233, .int .i64 t234, .int .i64 t235, .slice Ao19 t236.length co19, .slice Ao20 t239.length co20, .slice Ao21 t242.length co21] 51 (0, 0)) (oF BK246) hg (Kd.R_ne HO_3.out BK246.out (by decide))); replace HB := Aside0.mk (hb); clear HO_3; clear ho hb hg hat; have hnb30 := NB246_222.out; have hnc30 := NB222_246.out; obtain ⟨⟨_, _, _, _, _, _⟩, _, _, _, _, _, _⟩ := z6 BK246))
           go_loopg [4, 43] kj10 (fun kq v4 v43 w' => ∃ (x4_3 : List Int) (x43_3 : Int), v43 = .int .i64 x43_3 ∧ Aside0 (impl_Reached.l1 kq y248 x4_3 t239 (t239.length : Int) x43_3 l0_0 a0_1 = some r) ∧ Aside0 (kq ≤ kj10) ∧ Aside0 (Kd.R (Kd.int .i64) 3 w' w.heap.size (fun k_ => some k_ ≠ (v4 : Value).ownBlock) v249 y248) ∧ Aside0 (Kd.Q (Kd.int .i64) 3 w' w.heap.size (fun k_ => some k_ ≠ (v249 : Value).ownBlock) v4 x4_3) ∧ Aside0 (Kd.R k65 65 w' w.heap.size (fun _ => True) (.slice Ao20 t239.length co20) t239) ∧ Aside0 (Kd.R (Kd.int .u8) 5 w' w.heap.size (fun _ => True) (.slice Ao19 t236.length co19) t236) ∧ Aside0 (Kd.R k65 65 w' w.heap.size (fun _ => True) (.slice Ao20 t239.length co20) t239) ∧ Aside0 (Kd.R k71 71 w' w.heap.size (fun _ => True) (.slice Ao21 t242.length co21) t242) ∧ Aside0 (w'.heap[gb222]? = some (.cells #[(.slice A0_0 l0_0.length c0_0), .int .i64 a0_1] 26 (0, 0))) ∧ Aside0 (w'.heap[gb246]? = some (.cells #[.int .i64 t233, .int .i64 t234, .int .i64 t235, (.slice Ao19 t236.length co19), (.slice Ao20 t239.length co20), (.slice Ao21 t242.length co21)] 51 (0, 0))) ∧ Aside0 (Below w.heap.size w w'))
           case atStart => exact ⟨(y230), (0), oS, H', ⟨Nat.le_refl _⟩, ⟨oR HO250⟩, ⟨by (with_reducible repeat (first | apply Kd.Q_alloc | apply Kd.Q_drewN | apply Kd.Q_drew)); exact Kd.Q_mono HO_4.out (fun _ hk => hk.2)⟩, ⟨oR HO_247004⟩, ⟨oR HO_247003⟩, ⟨oR HO_247004⟩, ⟨oR HO_247005⟩, ⟨oF BK222⟩, ⟨oF BK246⟩, ⟨oB⟩⟩
           case round =>
            clear H'
            try clear c7
            try clear c7b0
            try clear c7b1
            try clear c8
            try clear c8b0
            try clear c8b1
            try clear c9
            try clear c27
            try clear c28
            obtain ⟨x4_3, x43_3, rfl, HA, HK3, HO_3, HO_4, HO_41, HO_247003, HO_247004, HO_247005, BK222, BK246, HB⟩ := hrel
            cases gk with
            | zero => exact absurd HA.out (by simp [impl_Reached.l1])
            | succ k3 =>
             have H := HA.out
             clear HA
             simp only [impl_Reached.l1] at H
             replace H := itD H
             rcases H with ⟨c32b0, H⟩ | ⟨c32b0, H⟩
             ·replace H := itD H
              rcases H with ⟨c33b0, H⟩ | ⟨c33b0, H⟩
              ·replace H := itD H
               rcases H with ⟨c34b0, H⟩ | ⟨c34b0, H⟩
               ·by_cases c35 : x4_3.length < 17592186044416
                ·rw [if_pos c35] at H
                 have LMc35 := Aside0.mk c35
                 clear c35
                 obtain ⟨y253, hy253⟩ : ∃ y_ : List Int, y_ = (x4_3 ++ [(rd_T65 t239 x43_3).f1]) := ⟨_, rfl⟩
                 replace H : (impl_Reached.l1 k3 y248 y253 t239 (t239.length : Int) (wrap64 (x43_3 + 1)) l0_0 a0_1) = some r := by first | (rw [hy253]; with_reducible exact H) | (have H2_ := (Option.bind_some _ _).symm.trans H; rw [hy253]; with_reducible exact H2_) | (have H2_ := (Option.bind_some _ _).symm.trans H; with_reducible exact H2_) | with_reducible exact H | (rw [hy253]; exact H) | exact H
                 have Ny253 := Aside0.mk hy253
                 clear hy253
                 have H' := Aside0.mk H
                 clear H
                 have p251 : (0 ≤ (x43_3 : Int)) = True := oT
                 have q251 : (x43_3 < (t239.length : Int)) = True := oT
                 obtain ⟨ad251, e251, hx251_0, hx251_1⟩ := at_T65 (Kd.R_reads' HO_41.out).2.2 x43_3 oa oa
                 cases e251
                 go_wp2_with (first | ((with_reducible refine gate_dst (N := 9) rfl ?_); refine bx_ 9 #[.string (⟨#[]⟩ : ByteArray), .int .i64 0] 65 ?_; intro gb252 hg w36 hbox hb; have BK252 := Aside0.mk (hbox); have GW252 := gs_ hg; have NB222_252 := nl_ hg BK222; have NB252_222 := nr_ hg BK222; have NB246_252 := nl_ hg BK246; have NB252_246 := nr_ hg BK246; replace HO_3 := kr_ HO_3 hb; replace HO_4 := beQ0 HO_4 hb; replace HO_41 := Aside0.mk (Kd.R_below (Kd.R_elderB (oR HO_41) gb252 (Nat.le_of_eq hg.symm)) hb); replace HO_247003 := kr_ HO_247003 hb; replace HO_247004 := Aside0.mk (Kd.R_below (Kd.R_elderB (oR HO_247004) gb252 (Nat.le_of_eq hg.symm)) hb); replace HO_247005 := kr_ HO_247005 hb; replace BK222 := kb_ BK222 hb; replace BK246 := kb_ BK246 hb; replace HB := Aside0.mk (below_step oB hb); clear hb hbox hg; have hnb37 := NB252_222.out; have hnc37 := NB222_252.out; have hnb38 := NB252_246.out; have hnc38 := NB246_252.out; obtain ⟨⟨_, _⟩, _, _⟩ := z2 BK252) | ((with_reducible refine gate_builtin (b := .append) (xs := #[.tmp 47, .tmp 50]) rfl ?_); at_builtin; refine Kd.Q_append (Kd.int .i64) (w0 := w) w.heap.size rfl (.tmp 47) (.tmp 50) 61 3 (.int .i64 0) 8 rfl Tryz.underlying61 info3 rfl (by decide) (by omega) u4 x4_3 ((rd_T65 t239 x43_3).f1) [.int .i64 ((rd_T65 t239 x43_3).f1)] (fun k_ => some k_ ≠ (v249 : Value).ownBlock) (fun _ => False) rfl (by first | (go_simp; done) | (go_simp; rfl)) ?aP (fun _ hk => hk.elim) ?aF ?aO ?aB ?aS ?aL ?_; (case aP => exact rfl); (case aB => exact oB); (case aF => exact (fun k_ hk => Kd.fresh' (ltR1 HO_3 BK252) k_ hk)); (case aO => exact (by (with_reducible repeat (first | apply Kd.Q_alloc | apply Kd.Q_drewN | apply Kd.Q_drew)); exact Kd.Q_mono (Kd.Q_far (p := ⟨gb252, 1, none⟩) (Kd.Q_far (p := ⟨gb252, 0, none⟩) (Kd.Q_types HO_4.out BK252.out (by decide)) (fun _ hk => hk.2) (.string ((rd_T65 t239 x43_3).f0))) (fun _ hk => hk.2) (.int .i64 ((rd_T65 t239 x43_3).f1))) (fun _ hk => hk.1))); (case aS => exact (below_size oB)); (case aL => have := LMc35.out; omega); intro v254 w40 ho hb hg hat; rw [← Ny253.out] at ho; have HO255 := Aside0.mk (ho); replace HO_3 := Aside0.mk (Kd.R_after (ok := (fun _ => True)) (by (with_reducible repeat (first | apply Kd.R_alloc | apply Kd.R_drewN | apply Kd.R_drew)); exact Kd.R_mono (Kd.R_far (p := ⟨gb252, 1, none⟩) (Kd.R_far (p := ⟨gb252, 0, none⟩) (Kd.R_types HO_3.out BK252.out (by decide)) (fun _ hk => hk.2) (.string ((rd_T65 t239 x43_3).f0))) (fun _ hk => hk.2) (.int .i64 ((rd_T65 t239 x43_3).f1))) (fun _ hk => ⟨trivial, hk.1⟩)) hg hat); replace HO_41 := Aside0.mk (Kd.R_over' (nR2 HO_41 gb252 (fun _ hk => hk.2)) (Kd.Q_typed (nQ1 HO_4 BK252)) (by decide) hg); replace HO_247003 := Aside0.mk (Kd.R_over' (nR1 HO_247003 BK252) (Kd.Q_typed (nQ1 HO_4 BK252)) (by decide) hg); replace HO_247004 := Aside0.mk (Kd.R_over' (nR2 HO_247004 gb252 (fun _ hk => hk.2)) (Kd.Q_typed (nQ1 HO_4 BK252)) (by decide) hg); replace HO_247005 := Aside0.mk (Kd.R_over' (nR1 HO_247005 BK252) (Kd.Q_typed (nQ1 HO_4 BK252)) (by decide) hg); replace BK222 := Aside0.mk (blk_grown (g := gb222) (o := .cells #[.slice A0_0 l0_0.length c0_0, .int .i64 a0_1] 26 (0, 0)) (oF BK222) hg (Kd.Q_ne HO_4.out BK222.out (by decide))); replace BK246 := Aside0.mk (blk_grown (g := gb246) (o := .cells #[.int .i64 t233, .int .i64 t234, .int .i64 t235, .slice Ao19 t236.length co19, .slice (some ad251) t239.length co20, .slice Ao21 t242.length co21] 51 (0, 0)) (oF BK246) hg (Kd.Q_ne HO_4.out BK246.out (by decide))); replace BK252 := Aside0.mk (blk_grown (g := gb252) (o := .cells #[.string ((rd_T65 t239 x43_3).f0), .int .i64 ((rd_T65 t239 x43_3).f1)] 65 (0, 0)) (oP BK252) hg (Kd.Q_ne HO_4.out BK252.out (by decide))); replace HB := Aside0.mk (hb); clear HO_4; clear ho hb hg hat))
                 go_roundg k3
                 case measure => have := HK1.out; have := HJ10.out; have := HK3.out; omega
                 case rel => exact ⟨(y253), (wrap64 (x43_3 + 1)), oS, H', ⟨by have := HK1.out; have := HJ10.out; have := HK3.out; omega⟩, ⟨by (with_reducible repeat (first | apply Kd.R_alloc | apply Kd.R_drewN | apply Kd.R_drew)); exact Kd.R_mono HO_3.out (fun _ hk => hk.2)⟩, ⟨by (with_reducible repeat (first | apply Kd.Q_alloc | apply Kd.Q_drewN | apply Kd.Q_drew)); exact HO255.out⟩, ⟨by (with_reducible repeat (first | apply Kd.R_alloc | apply Kd.R_drewN | apply Kd.R_drew)); exact Kd.R_mono HO_41.out (fun _ hk => trivial)⟩, ⟨oR HO_247003⟩, ⟨by (with_reducible repeat (first | apply Kd.R_alloc | apply Kd.R_drewN | apply Kd.R_drew)); exact Kd.R_mono HO_247004.out (fun _ hk => trivial)⟩, ⟨oR HO_247005⟩, ⟨oF BK222⟩, ⟨oF BK246⟩, ⟨oB⟩⟩
                ·rw [if_neg c35] at H
                 exact absurd H (by simp)
               ·cases H
              ·cases H
             ·have H' := Aside0.mk H
              clear H
              go_wp2
              go_roundg k3
              case measure => have := HK1.out; have := HJ10.out; have := HK3.out; omega
              case rel => exact ⟨(y248), (x4_3), H', ⟨by have := HK1.out; have := HJ10.out; have := HK3.out; omega⟩, ⟨oR HO_3⟩, ⟨by (with_reducible repeat (first | apply Kd.Q_alloc | apply Kd.Q_drewN | apply Kd.Q_drew)); exact HO_4.out⟩, ⟨oF BK222⟩, ⟨oB⟩⟩
          ·rw [if_neg c28] at H
           have c28b0 : (t234 == 2) = false := beq_eq_false_iff_ne.mpr c28
           have c28b1 : (t234 != 2) = true := bne_iff_ne.mpr c28
           have H' := Aside0.mk H
           clear H
           go_wp2_with (first | ((with_reducible refine gate_builtin (b := .append) (xs := #[.tmp 33, .tmp 35]) rfl ?_); at_builtin; refine Kd.R_append (Kd.int .i64) (w0 := w) w.heap.size rfl (.tmp 33) (.tmp 35) 61 3 (.int .i64 0) 8 rfl Tryz.underlying61 info3 rfl (by decide) (by omega) u3 x3_1 (rd x4_1 0) [.int .i64 (rd x4_1 0)] (fun k_ => some k_ ≠ (.slice A13 y230.length c13 : Value).ownBlock) (fun _ => False) rfl rfl ?aP (fun _ hk => hk.elim) ?aF ?aO ?aB ?aS ?aL ?_; (case aP => exact rfl); (case aB => exact oB); (case aF => exact (fun k_ hk => Kd.fresh' (ltQ0 HO_4) k_ hk)); (case aO => exact (oR HO_3)); (case aS => exact (below_size oB)); (case aL => have := LMc27.out; omega); intro v249 w41 ho hb hg hat; rw [← Ny248.out] at ho; have HO250 := Aside0.mk (ho); replace HO_4 := Aside0.mk (Kd.Q_after (ok := (fun _ => True)) (by (with_reducible repeat (first | apply Kd.Q_alloc | apply Kd.Q_drewN | apply Kd.Q_drew)); exact Kd.Q_mono HO_4.out (fun _ hk => ⟨trivial, hk⟩)) hg hat); replace HO_247003 := Aside0.mk (Kd.R_over' (oR HO_247003) (Kd.R_typed (oR HO_3)) (by decide) hg); replace HO_247004 := Aside0.mk (Kd.R_over' (oR HO_247004) (Kd.R_typed (oR HO_3)) (by decide) hg); replace HO_247005 := Aside0.mk (Kd.R_over' (oR HO_247005) (Kd.R_typed (oR HO_3)) (by decide) hg); replace BK222 := Aside0.mk (blk_grown (g := gb222) (o := .cells #[.slice A0_0 l0_0.length c0_0, .int .i64 a0_1] 26 (0, 0)) (oF BK222) hg (Kd.R_ne HO_3.out BK222.out (by decide))); replace BK246 := Aside0.mk (blk_grown (g := gb246) (o := .cells #[.int .i64 t233, .int .i64 t234, .int .i64 t235, .slice Ao19 t236.length co19, .slice Ao20 t239.length co20, .slice Ao21 t242.length co21] 51 (0, 0)) (oF BK246) hg (Kd.R_ne HO_3.out BK246.out (by decide))); replace HB := Aside0.mk (hb); clear HO_3; clear ho hb hg hat; have hnb42 := NB246_222.out; have hnc42 := NB222_246.out; obtain ⟨⟨_, _, _, _, _, _⟩, _, _, _, _, _, _⟩ := z6 BK246))
           go_roundg kj10
           case measure => have := HK1.out; have := HJ10.out; omega
           case rel => exact ⟨(y248), (y230), H', ⟨by have := HK1.out; have := HJ10.out; omega⟩, ⟨oR HO250⟩, ⟨by (with_reducible repeat (first | apply Kd.Q_alloc | apply Kd.Q_drewN | apply Kd.Q_drew)); exact Kd.Q_mono HO_4.out (fun _ hk => hk.2)⟩, ⟨oF BK222⟩, ⟨oB⟩⟩
         ·rw [if_neg c27] at H
          exact absurd H (by simp)
     ·rw [if_neg c9] at H
      exact absurd H (by simp)
    ·rw [if_neg c8] at H
     exact absurd H (by simp)
   ·rw [if_neg c7] at H
    have c7b0 : decide (0 < (x4_1.length : Int)) = false := decide_eq_false c7
    have c7b1 : decide (0 < x4_1.length) = false := decide_eq_false (by omega)
    clear c7
    split at H
    case isFalse => cases H
    case isTrue hsl_ =>
    obtain rfl := Option.some.inj H
    obtain ⟨Ao44, co44, eo44, _⟩ := Kd.Q_slice HO_4.out
    subst eo44
    obtain ⟨Aq_, cq_, rfl⟩ := Kd.R_slice HO_3.out
    go_wp2_with (go_at_call 68; refine (sortOwn.calls Aq_ cq_ w.heap.size (fun _ => True) x3_1 _ (Kd.R_mono (nR0 HO_3) (fun _ _ => trivial)) hsl_).mono ?_; rintro e w9_ ⟨rfl, hs_, hg_⟩)
    go_ret
    exact ⟨_, oE, hs_, (oB : Below w.heap.size w _).grown hg_ (below_size oB) (fun k_ hk_ => Kd.R_base hs_ k_ hk_)⟩

/-! ### impl_SetInode: function 50 -/
theorem sOpenV {α : Type} {d : Kd α} {e : Nat} {W : World} {base : Nat} {ok : Nat → Prop} {v : Value} {xs : List α} (h : Kd.S d e W base ok v xs) :
  ∃ (rows : List (List Value)) (f : Nat → Nat), rows.length = xs.length ∧ (Kd.raw d.sz).R e W base (fun k => v.ownBlock = some k) v rows ∧ (∀ k, v.ownBlock = some k → ok k) ∧
   ∀ (q : Nat) (x : α), xs[q]? = some x → d.M W base (fun k => (ok k ∧ some k ≠ v.ownBlock) ∧ f k = q) x (rows.getD q []) := by
 obtain ⟨f, hok0, inner, ho, hr⟩ := h
 have hlen : inner.length = xs.length * d.sz := by have := hr.1; rw [List.length_zipIdx] at this; exact this
 have hM : ∀ (q : Nat) (x : α), xs[q]? = some x → d.M W base (fun k => (ok k ∧ some k ≠ v.ownBlock) ∧ f k = q) x ((inner.drop (q * d.sz)).take d.sz) := fun q x hx => hr.2 q (x, q) (Kd.zip_at hx)
 have hrow : ∀ q, q < xs.length → ((List.range xs.length).map fun j => (inner.drop (j * d.sz)).take d.sz)[q]? = some ((inner.drop (q * d.sz)).take d.sz) := fun q hq => by
  rw [List.getElem?_map, List.getElem?_range hq]; rfl
 refine ⟨(List.range xs.length).map fun j => (inner.drop (j * d.sz)).take d.sz, f, by rw [List.length_map, List.length_range], ⟨fun k hk => hk, inner, ?_, ?_, fun j p hj => ?_⟩, hok0, fun q x hx => ?_⟩
 ·rw [List.length_map, List.length_range]; rw [List.length_zipIdx] at ho; exact ho
 ·rw [List.length_map, List.length_range]; exact hlen
 ·rw [List.getElem?_map] at hj
  obtain ⟨j', hj', rfl⟩ := Option.map_eq_some_iff.1 hj
  obtain ⟨hl, he⟩ := List.getElem?_eq_some_iff.1 hj'
  rw [List.getElem_range] at he
  subst he
  rw [List.length_range] at hl
  have hm := d.K_of_M (hM j _ (List.getElem?_eq_getElem hl))
  exact ⟨rfl, d.K_len hm, d.K_one hm⟩
 ·have hq : q < xs.length := (List.getElem?_eq_some_iff.1 hx).1
  rw [List.getD_eq_getElem?_getD, hrow q hq]
  exact hM q x hx
theorem sCloseV {α : Type} {d : Kd α} {e : Nat} {W : World} {base : Nat} {ok okr : Nat → Prop} {v : Value} {xs : List α} {rows : List (List Value)} (f : Nat → Nat)
  (hraw : (Kd.raw d.sz).R e W base okr v rows) (hlen : rows.length = xs.length) (hok : ∀ k, v.ownBlock = some k → ok k)
  (hM : ∀ (q : Nat) (x : α), xs[q]? = some x → d.M W base (fun k => (ok k ∧ some k ≠ v.ownBlock) ∧ f k = q) x (rows.getD q [])) : Kd.S d e W base ok v xs := by
 obtain ⟨_, inner, ho, hr⟩ := hraw
 refine ⟨f, hok, inner, ?_, ?_, fun j p hj => ?_⟩
 ·rw [List.length_zipIdx, ← hlen]; exact ho
 ·rw [List.length_zipIdx, ← hlen]; exact hr.1
 ·rw [List.getElem?_zipIdx, Nat.zero_add] at hj
  obtain ⟨y, hy, rfl⟩ := Option.map_eq_some_iff.1 hj
  have hjl : j < rows.length := by rw [hlen]; exact (List.getElem?_eq_some_iff.1 hy).1
  have hrw := (hr.2 j _ (List.getElem?_eq_getElem hjl)).1
  show d.M W base _ y ((inner.drop (j * d.sz)).take d.sz)
  rw [show (inner.drop (j * d.sz)).take d.sz = rows[j] from hrw]
  have := hM j y hy
  rw [List.getD_eq_getElem?_getD, List.getElem?_eq_getElem hjl] at this
  exact this
theorem ins_at {α : Type} (l : List α) (x : α) (j q : Nat) (hj : j ≤ l.length) : (l.take j ++ [x] ++ l.drop j)[q]? = if q < j then l[q]? else if q = j then some x else l[q - 1]? := by
 have ht : (l.take j).length = j := by rw [List.length_take]; omega
 rw [List.append_assoc]
 by_cases h1 : q < j
 ·rw [if_pos h1, List.getElem?_append_left (by omega), List.getElem?_take, if_pos h1]
 ·rw [if_neg h1, List.getElem?_append_right (by omega), ht]
  by_cases h2 : q = j
  ·subst h2; rw [if_pos rfl, Nat.sub_self]; rfl
  ·rw [if_neg h2, show q - j = (q - j - 1) + 1 by omega]
   simp only [List.singleton_append, List.getElem?_cons_succ, List.getElem?_drop]
   rw [show j + (q - j - 1) = q - 1 by omega]
/-- A row of structs whose element i is written over with a new one (made from N on): a row again. -/
theorem s_set {α : Type} {d : Kd α} {e : Nat} {W W1 : World} {base N : Nat} {ok okx okr okf : Nat → Prop} {v : Value} {xs : List α} {rows : List (List Value)} {f : Nat → Nat} {i : Nat} {x : α} {vs : List Value}
  (hraw : (Kd.raw d.sz).R e W1 base okr v (rows.set i vs)) (hlen : rows.length = xs.length) (hi : i < xs.length)
  (hM : ∀ (q : Nat) (x : α), xs[q]? = some x → d.M W base (fun k => (ok k ∧ some k ≠ v.ownBlock) ∧ f k = q) x (rows.getD q [])) (hx : d.M W base okx x vs)
  (hv : ∀ k, v.ownBlock = some k → ok k) (hN : ∀ k, ok k → k < N) (hxN : ∀ k, okx k → N ≤ k) (hof : ∀ k, ok k ∨ okx k → okf k)
  (hmove : ∀ k, some k ≠ v.ownBlock → k < W.heap.size → W1.heap[k]? = W.heap[k]?) : Kd.S d e W1 base okf v (xs.set i x) := by
 refine sCloseV (fun k => if k < N then f k else i) hraw (by rw [List.length_set, List.length_set, hlen]) (fun k hk => hof k (.inl (hv k hk))) (fun q y hy => ?_)
 by_cases hq : q = i
 ·subst hq
  rw [List.getElem?_set_self hi] at hy
  injection hy with hy
  subst hy
  rw [List.getD_eq_getElem?_getD, List.getElem?_set_self (by omega)]
  have hne : ∀ k, okx k → some k ≠ v.ownBlock := fun k hk he => by have := hN k (hv k he.symm); have := hxN k hk; omega
  exact d.M_mono (fun k hk => ⟨⟨hof k (.inr hk), hne k hk⟩, by rw [if_neg (by have := hxN k hk; omega)]⟩) (Kd.M_step hx (fun k hk hlt => hmove k (hne k hk) hlt))
 ·rw [List.getElem?_set_ne (fun e => hq e.symm)] at hy
  rw [List.getD_eq_getElem?_getD, List.getElem?_set_ne (fun e => hq e.symm), ← List.getD_eq_getElem?_getD]
  exact d.M_mono (fun k hk => ⟨⟨hof k (.inl hk.1.1), hk.1.2⟩, by rw [if_pos (hN k hk.1.1)]; exact hk.2⟩) (Kd.M_step (hM q y hy) (fun k hk hlt => hmove k hk.1.2 hlt))
/-- The same where a new one is set in between. -/
theorem s_ins {α : Type} {d : Kd α} {e : Nat} {W W1 : World} {base N N2 : Nat} {ok okx okr okf : Nat → Prop} {v v1 : Value} {xs : List α} {rows : List (List Value)} {f : Nat → Nat} {i : Nat} {x : α} {vs : List Value}
  (hraw : (Kd.raw d.sz).R e W1 base okr v1 (rows.take i ++ [vs] ++ rows.drop i)) (hlen : rows.length = xs.length) (hi : i ≤ xs.length)
  (hM : ∀ (q : Nat) (x : α), xs[q]? = some x → d.M W base (fun k => (ok k ∧ some k ≠ v.ownBlock) ∧ f k = q) x (rows.getD q [])) (hx : d.M W base okx x vs)
  (hv : ∀ k, v.ownBlock = some k → ok k) (hv1 : v1.ownBlock = v.ownBlock ∨ ∃ b, v1.ownBlock = some b ∧ N2 ≤ b) (hN : ∀ k, ok k → k < N) (hxN : ∀ k, okx k → N ≤ k ∧ k < N2) (hNN : N ≤ N2) (hof : ∀ k, ok k ∨ okx k ∨ N2 ≤ k → okf k)
  (hmove : ∀ k, some k ≠ v.ownBlock → k < W.heap.size → W1.heap[k]? = W.heap[k]?) : Kd.S d e W1 base okf v1 (xs.take i ++ [x] ++ xs.drop i) := by
 have hl1 : (rows.take i ++ [vs] ++ rows.drop i).length = (xs.take i ++ [x] ++ xs.drop i).length := by simp only [List.length_append, List.length_take, List.length_drop, List.length_singleton, hlen]
 have hvx : ∀ k, okx k → some k ≠ v.ownBlock := fun k hk he => by have := hN k (hv k he.symm); have := (hxN k hk).1; omega
 have hvx1 : ∀ k, okx k → some k ≠ v1.ownBlock := fun k hk he => by
  rcases hv1 with h | ⟨b, h, hb⟩
  ·exact hvx k hk (he.trans h)
  ·rw [h] at he; injection he with he; have := (hxN k hk).2; omega
 have hvo1 : ∀ k, ok k → some k ≠ v.ownBlock → some k ≠ v1.ownBlock := fun k hk hne he => by
  rcases hv1 with h | ⟨b, h, hb⟩
  ·exact hne (he.trans h)
  ·rw [h] at he; injection he with he; have := hN k hk; omega
 refine sCloseV (fun k => if k < N then (if f k < i then f k else f k + 1) else i) hraw hl1 (fun k hk => ?_) (fun q y hy => ?_)
 ·rcases hv1 with h | ⟨b, h, hb⟩
  ·exact hof k (.inl (hv k (h ▸ hk)))
  ·rw [h] at hk; injection hk with hk; exact hof k (.inr (.inr (hk ▸ hb)))
 ·rw [ins_at xs x i q hi] at hy
  rw [List.getD_eq_getElem?_getD, ins_at rows vs i q (by omega)]
  by_cases h1 : q < i
  ·rw [if_pos h1] at hy ⊢
   rw [← List.getD_eq_getElem?_getD]
   exact d.M_mono (fun k hk => ⟨⟨hof k (.inl hk.1.1), hvo1 k hk.1.1 hk.1.2⟩, by rw [if_pos (hN k hk.1.1), hk.2, if_pos h1]⟩) (Kd.M_step (hM q y hy) (fun k hk hlt => hmove k hk.1.2 hlt))
  ·rw [if_neg h1] at hy ⊢
   by_cases h2 : q = i
   ·rw [if_pos h2] at hy ⊢
    injection hy with hy
    subst hy
    exact d.M_mono (fun k hk => ⟨⟨hof k (.inr (.inl hk)), hvx1 k hk⟩, by rw [if_neg (by have := (hxN k hk).1; omega), h2]⟩) (Kd.M_step hx (fun k hk hlt => hmove k (hvx k hk) hlt))
   ·rw [if_neg h2] at hy ⊢
    rw [← List.getD_eq_getElem?_getD]
    exact d.M_mono (fun k hk => ⟨⟨hof k (.inl hk.1.1), hvo1 k hk.1.1 hk.1.2⟩, by rw [if_pos (hN k hk.1.1), hk.2, if_neg (by omega)]; omega⟩) (Kd.M_step (hM (q - 1) y hy) (fun k hk hlt => hmove k hk.1.2 hlt))
def gtR (ino : Int) : List S51 → Nat → Int
 | [], _ => -1
 | x :: l, i => if ino < x.f0 then (i : Int) else gtR ino l (i + 1)
theorem setOf1.calls (ino a b c : Int) (A3 A4 A5 : Option Addr) (n3 c3 n4 c4 n5 c5 : Nat) (B : Nat) (W : World) (hB : B < W.heap.size) (hc : W.cell? ⟨B, 0, none⟩ = some (.int .i64 ino)) :
  Calls Tryz.prog 74 #[.agg #[.int .i64 a, .int .i64 b, .int .i64 c, .slice A3 n3 c3, .slice A4 n4 c4, .slice A5 n5 c5], .pointer (some ⟨B, 0, none⟩)] W fun e w' => e = .returned (.bool (decide (ino < a))) ∧ Below W.heap.size W w' := by
 have hne : B ≠ W.heap.size := by omega
 go_enter Tryz.func74, Tryz.ntmps74
 go_wp2
 all_goals (go_ret; exact ⟨by simp_all, (Below.refl _ W).alloc (Nat.le_refl _) _⟩)
theorem srd_at (l : List S51) (k : Nat) (h : k < l.length) : rd_T51 l (k : Int) = l[k] := by
 simp [rd_T51, List.getD_eq_getElem?_getD, List.getElem?_eq_getElem h]
theorem gtR_hit (ino : Int) (l : List S51) (k j : Nat) (h : k < l.length) (hit : ino < (rd_T51 l (k : Int)).f0) : gtR ino (l.drop k) j = (j : Int) := by
 rw [List.drop_eq_getElem_cons h, gtR, if_pos (by rw [← srd_at l k h]; exact hit)]
theorem gtR_miss (ino : Int) (l : List S51) (k j : Nat) (h : k < l.length) (hit : ¬ ino < (rd_T51 l (k : Int)).f0) : gtR ino (l.drop k) j = gtR ino (l.drop (k + 1)) (j + 1) := by
 rw [List.drop_eq_getElem_cons h, gtR, if_neg (by rw [← srd_at l k h]; exact hit)]
set_option maxHeartbeats 400000 in
set_option maxRecDepth 100000 in
theorem setOf2.calls (ino : Int) (A0 : Option Addr) (c0 : Nat) (l : List S51) (B : Nat) (w : World) (hr : k51.C w A0 l.length l) (hB : B < w.heap.size) (hc : w.cell? ⟨B, 0, none⟩ = some (.int .i64 ino)) (hl : l.length ≤ 9223372036854775807) :
  Calls Tryz.prog 69 #[.slice A0 l.length c0, .func (.func 74) #[] #[.pointer (some ⟨B, 0, none⟩)]] w fun e w' => e = .returned (.int .i64 (gtR ino l 0)) ∧ Below w.heap.size w w' := by
 go_enter Tryz.func69, Tryz.ntmps69
 go_wp2
 go_loopg [5, 8] l.length (fun gg _ s8 wr => ∃ kk : Nat, kk ≤ l.length ∧ l.length - kk ≤ gg ∧ s8 = .int .i64 kk ∧ Aside0 (Below w.heap.size w wr) ∧ Aside0 (gtR ino l 0 = gtR ino (l.drop kk) kk))
 case atStart => exact ⟨0, Nat.zero_le _, by omega, rfl, ⟨Below.refl _ w⟩, ⟨rfl⟩⟩
 case round =>
  obtain ⟨kk, hkk, hg, rfl, BW, A⟩ := hrel
  by_cases hlt : kk < l.length
  ·have hltz : (kk : Int) < (l.length : Int) := by omega
   obtain ⟨ad, A3, c3, A4, c4, A5, c5, e0, h0, h1, h2, h3, h4, h5, _⟩ := at_T51 (Kd.C_below hr BW.out) (kk : Int) (by omega) hltz
   cases e0
   rw [Int.toNat_natCast] at h0 h1 h2 h3 h4 h5
   have hBw : B < wr.heap.size := Nat.lt_of_lt_of_le hB BW.out.size
   have hcw : wr.cell? ⟨B, 0, none⟩ = some (.int .i64 ino) := (BW.out.cell (p := ⟨B, 0, none⟩) hB).trans hc
   by_cases hit : ino < (rd_T51 l (kk : Int)).f0
   ·have hq : decide (ino < (rd_T51 l (kk : Int)).f0) = true := by simpa using hit
    go_wp2_with (go_at_call 74; refine (setOf1.calls ino _ _ _ _ _ _ _ _ _ _ _ _ B wr hBw hcw).mono ?_; rintro e w' ⟨rfl, hb'⟩; rw [hq])
    go_ret
    exact ⟨by rw [A.out, gtR_hit ino l kk kk hlt (by omega)]; rfl, below_then BW.out BW.out.size hb'⟩
   ·have hq : decide (ino < (rd_T51 l (kk : Int)).f0) = false := by simpa using hit
    go_wp2_with (go_at_call 74; refine (setOf1.calls ino _ _ _ _ _ _ _ _ _ _ _ _ B wr hBw hcw).mono ?_; rintro e w' ⟨rfl, hb'⟩; rw [hq])
    go_roundg (l.length - (kk + 1))
    case measure => omega
    case rel => exact ⟨kk + 1, by omega, by omega, by go_num, ⟨below_then BW.out BW.out.size hb'⟩, ⟨by rw [A.out, gtR_miss ino l kk kk hlt (by omega)]⟩⟩
  ·have hltz : ¬ (kk : Int) < (l.length : Int) := by omega
   obtain rfl : kk = l.length := by omega
   go_wp2
   go_ret
   exact ⟨by rw [A.out, List.drop_length]; rfl, BW.out⟩
theorem gtR_spec (ino : Int) (l : List S51) : ∀ j : Nat, gtR ino l j = -1 ∨ ∃ i : Nat, gtR ino l j = ((j + i : Nat) : Int) ∧ i < l.length := by
 induction l with
 | nil => intro j; exact .inl rfl
 | cons x l ih =>
  intro j
  rw [gtR]
  by_cases c : ino < x.f0
  ·rw [if_pos c]; exact .inr ⟨0, by simp, by simp⟩
  ·rw [if_neg c]
   rcases ih (j + 1) with h1 | ⟨i, h1, h2⟩
   ·exact .inl h1
   ·exact .inr ⟨i + 1, by rw [h1]; congr 1; omega, by simpa using h2⟩
theorem placeR_spec (ino : Int) (l : List S51) : ∀ j : Nat, placeR ino l j = -1 ∨ ∃ i : Nat, placeR ino l j = ((j + i : Nat) : Int) ∧ i < l.length := by
 induction l with
 | nil => intro j; exact .inl rfl
 | cons x l ih =>
  intro j
  rw [placeR]
  by_cases c : x.f0 = ino
  ·rw [if_pos c]; exact .inr ⟨0, by simp, by simp⟩
  ·rw [if_neg c]
   rcases ih (j + 1) with h1 | ⟨i, h1, h2⟩
   ·exact .inl h1
   ·exact .inr ⟨i + 1, by rw [h1]; congr 1; omega, by simpa using h2⟩
def gtP (ino : Int) (l : List S51) : Nat := if gtR ino l 0 < 0 then l.length else (gtR ino l 0).toNat
def setP (x : S51) (l : List S51) : List S51 := if 0 ≤ placeR x.f0 l 0 then l.set (placeR x.f0 l 0).toNat x else l.take (gtP x.f0 l) ++ [x] ++ l.drop (gtP x.f0 l)
theorem bgrownV {W W1 : World} {g : Nat} {o : Obj} {v : Value} (h : Aside0 (W.heap[g]? = some o)) (hg : W.grownBy W1 v.ownBlock) (hn : some g ≠ v.ownBlock) : Aside0 (W1.heap[g]? = some o) := ⟨blk_grown h.out hg hn⟩
theorem raw_wholeS {w : World} {base sz : Nat} {ok : Nat → Prop} {c' seg : List Value} (hc : c'.length = sz) (hs : seg.length = sz) (h1 : ∀ v ∈ seg, v.oneCell' = true) : (Kd.raw sz).M w base ok seg (c'.take 0 ++ seg ++ c'.drop (0 + seg.length)) := by
 have e : c'.take 0 ++ seg ++ c'.drop (0 + seg.length) = seg := by rw [Nat.zero_add, hs, ← hc, List.drop_length]; simp
 exact ⟨e, by rw [e]; exact hs, by rw [e]; exact h1⟩
theorem bgrown {W W1 : World} {g g' : Nat} {o : Obj} (h : Aside0 (W.heap[g]? = some o)) (hg : W.grownBy W1 (some g')) (hn : ¬ (g = g')) : Aside0 (W1.heap[g]? = some o) := ⟨blk_grown h.out hg (by intro he; injection he with he; exact hn he)⟩
theorem put6 {W : World} {g : Nat} {t : TypeId} {a0 a1 a2 a3 a4 a5 : Value} (h : W.heap[g]? = some (.cells #[a0, a1, a2, a3, a4, a5] t (0, 0))) (v0 v1 v2 v3 v4 v5 : Value) :
  ((((((W.setCell ⟨g, 0, none⟩ v0).setCell ⟨g, 1, none⟩ v1).setCell ⟨g, 2, none⟩ v2).setCell ⟨g, 3, none⟩ v3).setCell ⟨g, 4, none⟩ v4).setCell ⟨g, 5, none⟩ v5).heap[g]? = some (.cells #[v0, v1, v2, v3, v4, v5] t (0, 0)) ∧
   (∀ k, k ≠ g → ((((((W.setCell ⟨g, 0, none⟩ v0).setCell ⟨g, 1, none⟩ v1).setCell ⟨g, 2, none⟩ v2).setCell ⟨g, 3, none⟩ v3).setCell ⟨g, 4, none⟩ v4).setCell ⟨g, 5, none⟩ v5).heap[k]? = W.heap[k]?) ∧
   ((((((W.setCell ⟨g, 0, none⟩ v0).setCell ⟨g, 1, none⟩ v1).setCell ⟨g, 2, none⟩ v2).setCell ⟨g, 3, none⟩ v3).setCell ⟨g, 4, none⟩ v4).setCell ⟨g, 5, none⟩ v5).heap.size = W.heap.size :=
 ⟨by
  refine blk_put (cs := #[v0, v1, v2, v3, v4, a5]) ?_ 5 _ rfl
  refine blk_put (cs := #[v0, v1, v2, v3, a4, a5]) ?_ 4 _ rfl
  refine blk_put (cs := #[v0, v1, v2, a3, a4, a5]) ?_ 3 _ rfl
  refine blk_put (cs := #[v0, v1, a2, a3, a4, a5]) ?_ 2 _ rfl
  refine blk_put (cs := #[v0, a1, a2, a3, a4, a5]) ?_ 1 _ rfl
  exact blk_put h 0 _ rfl,
 fun k hk => by rw [Below.heap_setCell _ _ _ _ hk, Below.heap_setCell _ _ _ _ hk, Below.heap_setCell _ _ _ _ hk, Below.heap_setCell _ _ _ _ hk, Below.heap_setCell _ _ _ _ hk, Below.heap_setCell _ _ _ _ hk], by simp [World.setCell]⟩
def impl_SetInode.f (k : Nat) (l0_0 : List S51) (a0_1 b0 b1 b2 : Int) (m3 : List Int) (m4 : List S65) (m5 : List S71) : Option (List S51 × Int) := (impl_copyTab.f k l0_0 a0_1).bind fun t => (impl_copyInode.f b0 b1 b2 m3 m4 m5).bind fun y => if t.1.length ≤ 1466015503700 then some (setP ⟨y.1, y.2.1, y.2.2.1, y.2.2.2.1, y.2.2.2.2.1, y.2.2.2.2.2⟩ t.1, t.2) else none
set_option maxHeartbeats 2000000 in
set_option maxRecDepth 100000 in
theorem impl_SetInode.calls (k : Nat) (A0_0 : Option Addr) (c0_0 : Nat) (l0_0 : List S51) (a0_1 b0 b1 b2 : Int) (A1_3 : Option Addr) (c1_3 : Nat) (m3 : List Int) (A1_4 : Option Addr) (c1_4 : Nat) (m4 : List S65) (A1_5 : Option Addr) (c1_5 : Nat) (m5 : List S71) (r1 : List S51) (r2 : Int) (w : World)
  (hr0_0 : Kd.C k51 w A0_0 l0_0.length l0_0) (hc0_0 : l0_0.length ≤ c0_0) (hr1_3 : Kd.C (Kd.int .u8) w A1_3 m3.length m3) (hc1_3 : m3.length ≤ c1_3) (hr1_4 : Kd.C k65 w A1_4 m4.length m4) (hc1_4 : m4.length ≤ c1_4) (hr1_5 : Kd.C k71 w A1_5 m5.length m5) (hc1_5 : m5.length ≤ c1_5) (h : impl_SetInode.f k l0_0 a0_1 b0 b1 b2 m3 m4 m5 = some (r1, r2)) :
  Calls Tryz.prog 50 #[.agg #[.slice A0_0 l0_0.length c0_0, .int .i64 a0_1], .agg #[.int .i64 b0, .int .i64 b1, .int .i64 b2, .slice A1_3 m3.length c1_3, .slice A1_4 m4.length c1_4, .slice A1_5 m5.length c1_5]] w fun e w' => ∃ v0_ : Value, e = .returned (.agg #[v0_, .int .i64 r2]) ∧ Kd.S k51 51 w' w.heap.size (fun _ => True) v0_ r1 ∧ Below w.heap.size w w' := by
 unfold impl_SetInode.f at h
 replace h := bA h
 obtain ⟨⟨t1, t2⟩, H1, h⟩ := h
 replace h := bA h
 obtain ⟨⟨y0, y1, y2, y3, y4, y5⟩, H2, h⟩ := h
 split at h
 case isFalse => cases h
 case isTrue hl =>
 simp only [Option.some.injEq, Prod.mk.injEq] at h
 obtain ⟨hR1, rfl⟩ := h
 have hl' : t1.length ≤ 1466015503700 := hl
 clear hl
 have HL := Aside0.mk hl'
 have HR1 := Aside0.mk hR1
 clear hl' hR1
 have HR0 := Aside0.mk hr0_0
 have HC0 := Aside0.mk hc0_0
 have HR3 := Aside0.mk hr1_3
 have HC3 := Aside0.mk hc1_3
 have HR4 := Aside0.mk hr1_4
 have HC4 := Aside0.mk hc1_4
 have HR5 := Aside0.mk hr1_5
 have HC5 := Aside0.mk hc1_5
 clear hr0_0 hc0_0 hr1_3 hc1_3 hr1_4 hc1_4 hr1_5 hc1_5
 have HB := Aside0.mk (Below.refl w.heap.size w)
 go_enter Tryz.func50, Tryz.ntmps50
 go_wp2_with fail
 refine (impl_copyTab.calls k _ _ l0_0 a0_1 t1 t2 _ (kC HR0) HC0.out H1.out).mono ?_
 rintro e w2 ⟨v0, rfl, hs, hb⟩
 obtain ⟨A, c, rfl⟩ := Kd.S_slice hs
 have KT := Aside0.mk (blk_below (blk_alloc (blk_alloc (blk_new _ _) _) _) hb)
 have KI := Aside0.mk (blk_below (blk_alloc (blk_new _ _) _) hb)
 have KR := Aside0.mk (blk_below (blk_new _ _) hb)
 simp only [World.size_alloc] at KI KR
 have S1 := siv' hs (w.heap.size + 3) w.heap.size (by simp) (by simp only [World.size_alloc]; omega)
 have n1 : w.heap.size + 3 ≤ w2.heap.size := by have := hb.size; simpa using this
 replace HB := Aside0.mk (below_step (below_alloc (below_alloc (below_alloc (Below.refl _ _) _) _) _) hb)
 clear hs hb
 have zt := z2 KT
 have zi := z6 KI
 have zr := z2 KR
 have KT3 := Aside0.mk (show ((w2.setCell ⟨w.heap.size, 0, none⟩ (.slice A t1.length c)).setCell ⟨w.heap.size, 1, none⟩ (.int .i64 t2)).heap[w.heap.size]? = some (.cells #[.slice A t1.length c, .int .i64 t2] 26 (0, 0)) by simpa using blk_set (blk_set KT.out 0 (.slice A t1.length c)) 1 (.int .i64 t2))
 have KI3 := Aside0.mk (show ((w2.setCell ⟨w.heap.size, 0, none⟩ (.slice A t1.length c)).setCell ⟨w.heap.size, 1, none⟩ (.int .i64 t2)).heap[w.heap.size + 1]? = some (.cells #[.int .i64 b0, .int .i64 b1, .int .i64 b2, .slice A1_3 m3.length c1_3, .slice A1_4 m4.length c1_4, .slice A1_5 m5.length c1_5] 51 (0, 0)) by rw [Below.heap_setCell _ _ _ _ (by simp), Below.heap_setCell _ _ _ _ (by simp)]; exact KI.out)
 have KR3 := Aside0.mk (show ((w2.setCell ⟨w.heap.size, 0, none⟩ (.slice A t1.length c)).setCell ⟨w.heap.size, 1, none⟩ (.int .i64 t2)).heap[w.heap.size + 1 + 1]? = some (.cells #[.slice none 0 0, .int .i64 0] 26 (0, 0)) by rw [Below.heap_setCell _ _ _ _ (by simp; omega), Below.heap_setCell _ _ _ _ (by simp; omega)]; exact KR.out)
 have HB3 := Aside0.mk ((HB.out.setCell (p := ⟨w.heap.size, 0, none⟩) (Nat.le_refl _) (.slice A t1.length c)).setCell (p := ⟨w.heap.size, 1, none⟩) (Nat.le_refl _) (.int .i64 t2))
 have S3 := Aside0.mk (Kd.S_far (p := ⟨w.heap.size, 1, none⟩) (Kd.S_far (p := ⟨w.heap.size, 0, none⟩) S1.out (fun k hk => by have := hk.1; dsimp only; omega) (.slice A t1.length c)) (fun k hk => by have := hk.1; dsimp only; omega) (.int .i64 t2))
 go_wp2_with fail
 have hsz3 : ((w2.setCell ⟨w.heap.size, 0, none⟩ (.slice A t1.length c)).setCell ⟨w.heap.size, 1, none⟩ (.int .i64 t2)).heap.size = w2.heap.size := by simp [World.setCell]
 generalize hW3 : ((w2.setCell ⟨w.heap.size, 0, none⟩ (.slice A t1.length c)).setCell ⟨w.heap.size, 1, none⟩ (.int .i64 t2)) = W3 at KT3 KI3 KR3 HB3 S3 hsz3 ⊢
 clear hW3 zt zi zr KT KI KR S1 HB
 refine (impl_copyInode.calls b0 b1 b2 _ _ m3 _ _ m4 _ _ m5 y0 y1 y2 y3 y4 y5 W3 (Kd.C_below HR3.out HB3.out) HC3.out (Kd.C_below HR4.out HB3.out) HC4.out (Kd.C_below HR5.out HB3.out) HC5.out H2.out).mono ?_
 rintro e w4 ⟨v3, v4, v5, rfl, g3, g4, g5, hb⟩
 have KT := Aside0.mk (blk_below KT3.out hb)
 have KI := Aside0.mk (blk_below KI3.out hb)
 have KR := Aside0.mk (blk_below KR3.out hb)
 have HB := Aside0.mk (below_step HB3.out hb)
 have S4 := Aside0.mk (Kd.S_below S3.out hb)
 have n4 : w2.heap.size ≤ w4.heap.size := by have := hb.size; omega
 have G3 := riv' g3 w2.heap.size w.heap.size (by omega) (by omega)
 have G4 := riv' g4 w2.heap.size w.heap.size (by omega) (by omega)
 have G5 := riv' g5 w2.heap.size w.heap.size (by omega) (by omega)
 clear hb KT3 KI3 KR3 HB3 S3 g3 g4 g5 hsz3
 obtain ⟨A3, c3, rfl⟩ := Kd.R_slice G3.out
 obtain ⟨A4, c4, rfl⟩ := Kd.R_slice G4.out
 obtain ⟨A5, c5, rfl⟩ := Kd.R_slice G5.out
 have zt := z2 KT
 have zi := z6 KI
 have d01 : ¬ (w.heap.size = w.heap.size + 1) := by omega
 have d10 : ¬ (w.heap.size + 1 = w.heap.size) := by omega
 go_wp2_with fail
 obtain ⟨p1, p2, p3⟩ := put6 KI.out (.int .i64 y0) (.int .i64 y1) (.int .i64 y2) (.slice A3 y3.length c3) (.slice A4 y4.length c4) (.slice A5 y5.length c5)
 have HB5 := Aside0.mk ((((((HB.out.setCell (p := ⟨w.heap.size + 1, 0, none⟩) (by dsimp only; omega) (.int .i64 y0)).setCell (p := ⟨w.heap.size + 1, 1, none⟩) (by dsimp only; omega) (.int .i64 y1)).setCell (p := ⟨w.heap.size + 1, 2, none⟩) (by dsimp only; omega) (.int .i64 y2)).setCell (p := ⟨w.heap.size + 1, 3, none⟩) (by dsimp only; omega) (.slice A3 y3.length c3)).setCell (p := ⟨w.heap.size + 1, 4, none⟩) (by dsimp only; omega) (.slice A4 y4.length c4)).setCell (p := ⟨w.heap.size + 1, 5, none⟩) (by dsimp only; omega) (.slice A5 y5.length c5))
 generalize hW5 : ((((((w4.setCell ⟨w.heap.size + 1, 0, none⟩ (.int .i64 y0)).setCell ⟨w.heap.size + 1, 1, none⟩ (.int .i64 y1)).setCell ⟨w.heap.size + 1, 2, none⟩ (.int .i64 y2)).setCell ⟨w.heap.size + 1, 3, none⟩ (.slice A3 y3.length c3)).setCell ⟨w.heap.size + 1, 4, none⟩ (.slice A4 y4.length c4)).setCell ⟨w.heap.size + 1, 5, none⟩ (.slice A5 y5.length c5)) = W5 at p1 p2 p3 HB5 ⊢
 have KT5 := Aside0.mk ((p2 w.heap.size (by omega)).trans KT.out)
 have KR5 := Aside0.mk ((p2 (w.heap.size + 1 + 1) (by omega)).trans KR.out)
 have KI5 := Aside0.mk p1
 have S5 := Aside0.mk (Kd.S_step S4.out (fun k hk _ => p2 k (by have := hk.1; omega)))
 replace G3 := Aside0.mk (Kd.R_step G3.out (fun k hk _ => p2 k (by have := hk.1; omega)))
 replace G4 := Aside0.mk (Kd.R_step G4.out (fun k hk _ => p2 k (by have := hk.1; omega)))
 replace G5 := Aside0.mk (Kd.R_step G5.out (fun k hk _ => p2 k (by have := hk.1; omega)))
 clear hW5 p1 p2 KT KI KR HB S4 zt zi
 have hplace : impl_placeOf.f k t1 t2 y0 = some (placeR y0 t1 0) := by unfold impl_placeOf.f; rw [if_pos (by have := HL.out; omega)]
 refine (impl_placeOf.calls k _ _ t1 t2 y0 _ W5 (Kd.S_reads' S5.out).2.2 (rl S5) hplace).mono ?_
 rintro e w6 ⟨rfl, hb⟩
 replace n4 : w2.heap.size ≤ w6.heap.size ∧ w4.heap.size ≤ w6.heap.size := by have := hb.size; omega
 have KT := Aside0.mk (blk_below KT5.out hb)
 have KI := Aside0.mk (blk_below KI5.out hb)
 have KR := Aside0.mk (blk_below KR5.out hb)
 have HB := Aside0.mk (below_step HB5.out hb)
 have S6 := Aside0.mk (Kd.S_below S5.out hb)
 replace G3 := Aside0.mk (Kd.R_below G3.out hb)
 replace G4 := Aside0.mk (Kd.R_below G4.out hb)
 replace G5 := Aside0.mk (Kd.R_below G5.out hb)
 clear hb KT5 KI5 KR5 HB5 S5 hplace p3
 have zt := z2 KT
 have zi := z6 KI
 have zr := z2 KR
 obtain ⟨rows, f, hrl, hraw, hPg, hM⟩ := sOpenV S6.out
 have HX := Aside0.mk (k51_mkM w6 w.heap.size (fun k => w2.heap.size ≤ k ∧ k < w4.heap.size) (⟨y0, y1, y2, y3, y4, y5⟩ : S51) G3.out G4.out G5.out)
 have HRAW := Aside0.mk hraw
 have HM := Aside0.mk hM
 have HP := Aside0.mk hPg
 have HRL := Aside0.mk hrl
 clear G3 G4 G5 hraw hM hPg hrl
 rcases placeR_spec y0 t1 0 with hp | ⟨i, hp, hit⟩
 case inr =>
  rw [Nat.zero_add] at hp
  rw [hp]
  obtain ⟨g, cap, ev, gb, _, _⟩ := Kd.S_form S6.out (by omega)
  injection ev with ea en ec
  subst ea
  clear en ec
  have hltz : (i : Int) < (t1.length : Int) := by omega
  have hi0 : (0 : Int) ≤ (i : Int) := by omega
  have hg3 := HP.out g rfl
  have dg0 : ¬ (w.heap.size = g) := by omega
  have dg1 : ¬ (w.heap.size + 1 = g) := by omega
  have dg2 : ¬ (w.heap.size + 1 + 1 = g) := by omega
  have HONE := Aside0.mk (k51.K_one (k51.K_of_M HX.out))
  obtain ⟨c', hcl', hcm', hcc', _⟩ := Kd.R_elem HRAW.out [] (i : Int) hi0 hltz
  have HCC := Aside0.mk hcc'
  have HCL := Aside0.mk hcl'
  clear hcc' hcm' hcl'
  go_wp2_with ((with_reducible refine gate_store (t := 51) (p := 21) rfl ?_); refine Kd.R_store (Kd.raw k51.sz) w.heap.size rfl rfl 51 (.tmp 21) (.tmp 20) rfl 51 (i : Int) 0 rows [.int .i64 y0, .int .i64 y1, .int .i64 y2, .slice A3 y3.length c3, .slice A4 y4.length c4, .slice A5 y5.length c5] (.agg [.int .i64 y0, .int .i64 y1, .int .i64 y2, .slice A3 y3.length c3, .slice A4 y4.length c4, .slice A5 y5.length c5].toArray) [.int .i64 y0, .int .i64 y1, .int .i64 y2, .slice A3 y3.length c3, .slice A4 y4.length c4, .slice A5 y5.length c5] c' _ (fun _ => False) rfl (by simp; rfl) rfl rfl (by kernel_rfl) HONE.out HRAW.out hi0 hltz HCL.out HCC.out (Nat.le_refl _) (raw_wholeS HCL.out rfl HONE.out) (fun _ hk => hk.elim) HB.out ?_; intro w7 hr7 hb7 hg7; have HR7 := Aside0.mk hr7; have HB7 := Aside0.mk hb7; have HG7 := Aside0.mk hg7; have KT7 := bgrown KT hg7 dg0; have KR7 := bgrown KR hg7 dg2; replace zt := z2 KT7; replace zr := z2 KR7; clear hr7 hb7 hg7)
  have hr7 := HR7.out
  rw [Int.toNat_natCast] at hr7
  have hs7 := s_set (okf := fun k => w.heap.size + 3 ≤ k) (N := w2.heap.size) hr7 HRL.out hit HM.out HX.out HP.out (fun k hk => hk.2) (fun k hk => hk.1) (fun k hk => by rcases hk with h | h; exact h.1; have := h.1; omega) (fun k hne hlt => HG7.out.block k hlt hne)
  have hres : setP (⟨y0, y1, y2, y3, y4, y5⟩ : S51) t1 = t1.set i ⟨y0, y1, y2, y3, y4, y5⟩ := by
   unfold setP
   dsimp only
   rw [hp, if_pos (by omega), Int.toNat_natCast]
  rw [HR1.out] at hres
  rw [← hres] at hs7
  have HS7 := Aside0.mk hs7
  clear hs7 hr7 hres
  try simp only [Exit.inBlock, Exit.then]
  refine bodyPost_ret (results_cell_row rfl _ _ (w.heap.size + 1 + 1) 26 #[.slice (some ⟨g, 0, none⟩) t1.length c, .int .i64 t2] (0, 0) _ rfl (by refine blk_put (cs := #[.slice (some ⟨g, 0, none⟩) t1.length c, .int .i64 0]) ?_ 1 _ rfl; refine blk_put (cs := #[.slice none 0 0, .int .i64 0]) ?_ 0 _ rfl; exact KR7.out) Tryz.underlying26 rfl (by kernel_rfl)) rfl ?_
  refine ⟨_, rfl, ?_, ?_⟩
  ·exact Kd.S_mono (Kd.S_far (Kd.S_far HS7.out (fun k hk => by dsimp only; omega) _) (fun k hk => by dsimp only; omega) _) (fun _ _ => trivial)
  ·exact (HB7.out.setCell (by dsimp only; omega) _).setCell (by dsimp only; omega) _
 case inl =>
  rw [hp]
  go_wp2_with fail
  refine (setOf2.calls y0 A c t1 (w.heap.size + 1) w6 (Kd.S_reads' S6.out).2.2 (blk_lt KI.out) zi.1.1 (by have := HL.out; omega)).mono ?_
  rintro e w7 ⟨rfl, hb⟩
  have N67 := Aside0.mk hb.size
  have HW67 := Aside0.mk hb
  replace KT := Aside0.mk (blk_below KT.out hb)
  replace KI := Aside0.mk (blk_below KI.out hb)
  replace KR := Aside0.mk (blk_below KR.out hb)
  replace HB := Aside0.mk (below_step HB.out hb)
  replace HRAW := Aside0.mk (Kd.R_below HRAW.out hb)
  have HONE := Aside0.mk (k51.K_one (k51.K_of_M HX.out))
  have HVB := Aside0.mk (show some w7.heap.size ≠ (Value.slice A t1.length c).ownBlock from fun he => by have := Kd.R_lt HRAW.out _ he.symm; omega)
  have HWB := Aside0.mk (show w.heap.size ≤ (w7.alloc (.cells #[.int .i64 y0, .int .i64 y1, .int .i64 y2, .slice A3 y3.length c3, .slice A4 y4.length c4, .slice A5 y5.length c5] 51)).heap.size by have := N67.out; rw [World.size_alloc]; omega)
  have HLB := Aside0.mk (show (t1.length + 1) * 96 ≤ 140737488355328 by have := HL.out; omega)
  have NT := Aside0.mk (show some w.heap.size ≠ (Value.slice A t1.length c).ownBlock from fun he => by have := (HP.out _ he.symm).1; omega)
  have NR := Aside0.mk (show some (w.heap.size + 1 + 1) ≠ (Value.slice A t1.length c).ownBlock from fun he => by have := (HP.out _ he.symm).1; omega)
  clear hb S6
  have KT0 := KT
  replace KT := Aside0.mk (blk_alloc KT.out (.cells #[.int .i64 y0, .int .i64 y1, .int .i64 y2, .slice A3 y3.length c3, .slice A4 y4.length c4, .slice A5 y5.length c5] 51))
  replace KR := Aside0.mk (blk_alloc KR.out (.cells #[.int .i64 y0, .int .i64 y1, .int .i64 y2, .slice A3 y3.length c3, .slice A4 y4.length c4, .slice A5 y5.length c5] 51))
  have zt' := z2 KT
  have zi := z6 KI
  have zt := z2 KT0
  rcases gtR_spec y0 t1 0 with hgt | ⟨j, hgt, hjt⟩
  case inl =>
   rw [hgt]
   have HJ := Aside0.mk (Nat.le_refl t1.length)
   go_wp2_with (go_at_call 75; refine (insInode.calls A t1.length c t1.length w7.heap.size w.heap.size (fun k => (Value.slice A t1.length c).ownBlock = some k) rows [.int .i64 y0, .int .i64 y1, .int .i64 y2, .slice A3 y3.length c3, .slice A4 y4.length c4, .slice A5 y5.length c5] w _ HJ.out HRL.out (Kd.R_below HRAW.out (below_alloc (Below.refl _ _) _)) (blk_new w7 _) HVB.out rfl HONE.out (below_alloc HB.out _) HWB.out HLB.out).mono ?_; rintro e w8 ⟨v', rfl, hr8, hb8, hg8, hat8⟩; have HR8 := Aside0.mk hr8; have HB8 := Aside0.mk hb8; have HG8 := Aside0.mk hg8; have HA8 := Aside0.mk hat8; have KT8 := bgrownV KT hg8 NT.out; have KR8 := bgrownV KR hg8 NR.out; replace zt := z2 KT8; replace zr := z2 KR8; obtain ⟨A', n', c', rfl⟩ : ∃ A' n' c', v' = Value.slice A' n' c' := (by obtain ⟨A', c', hs⟩ := Kd.R_slice hr8; exact ⟨_, _, _, hs⟩); clear hr8 hb8 hg8 hat8)
   have hs8 := s_ins (okf := fun k => w.heap.size + 3 ≤ k) (N := w2.heap.size) (N2 := w6.heap.size) HR8.out HRL.out HJ.out HM.out HX.out HP.out (by rcases HA8.out with h | ⟨b, h, hb⟩; exact .inl h; exact .inr ⟨b, h, by have := N67.out; rw [World.size_alloc] at hb; omega⟩) (fun k hk => hk.2) (fun k hk => ⟨hk.1, by have := hk.2; omega⟩) (by omega) (fun k hk => by rcases hk with h | h | h; exact h.1; have := h.1; omega; omega) (fun k hne hlt => by rw [HG8.out.block k (by have := N67.out; rw [World.size_alloc]; omega) hne, Below.heap_alloc _ _ _ (by have := N67.out; omega)]; exact HW67.out.block k hlt)
   have hres : setP (⟨y0, y1, y2, y3, y4, y5⟩ : S51) t1 = t1.take t1.length ++ [⟨y0, y1, y2, y3, y4, y5⟩] ++ t1.drop t1.length := by
    unfold setP gtP
    dsimp only
    rw [hp, if_neg (by omega)]
    rw [if_pos (by rw [hgt]; omega)]
   rw [HR1.out] at hres
   rw [← hres] at hs8
   have HS8 := Aside0.mk hs8
   clear hs8 hres
   try simp only [Exit.inBlock, Exit.then]
   refine bodyPost_ret (results_cell_row rfl _ _ (w.heap.size + 1 + 1) 26 #[.slice A' n' c', .int .i64 t2] (0, 0) _ rfl (by refine blk_put (cs := #[.slice A' n' c', .int .i64 0]) ?_ 1 _ rfl; refine blk_put (cs := #[.slice none 0 0, .int .i64 0]) ?_ 0 _ rfl; rw [Below.heap_setCell _ _ _ _ (by simp; omega)]; exact KR8.out) Tryz.underlying26 rfl (by kernel_rfl)) rfl ?_
   refine ⟨_, rfl, ?_, ?_⟩
   ·exact Kd.S_mono (Kd.S_far (Kd.S_far (Kd.S_far HS8.out (fun k hk => by dsimp only; omega) _) (fun k hk => by dsimp only; omega) _) (fun k hk => by dsimp only; omega) _) (fun _ _ => trivial)
   ·exact ((HB8.out.setCell (by dsimp only; omega) _).setCell (by dsimp only; omega) _).setCell (by dsimp only; omega) _
  case inr =>
   rw [Nat.zero_add] at hgt
   rw [hgt]
   have HJ := Aside0.mk (Nat.le_of_lt hjt)
   go_wp2_with (go_at_call 75; refine (insInode.calls A t1.length c j w7.heap.size w.heap.size (fun k => (Value.slice A t1.length c).ownBlock = some k) rows [.int .i64 y0, .int .i64 y1, .int .i64 y2, .slice A3 y3.length c3, .slice A4 y4.length c4, .slice A5 y5.length c5] w _ HJ.out HRL.out (Kd.R_below HRAW.out (below_alloc (Below.refl _ _) _)) (blk_new w7 _) HVB.out rfl HONE.out (below_alloc HB.out _) HWB.out HLB.out).mono ?_; rintro e w8 ⟨v', rfl, hr8, hb8, hg8, hat8⟩; have HR8 := Aside0.mk hr8; have HB8 := Aside0.mk hb8; have HG8 := Aside0.mk hg8; have HA8 := Aside0.mk hat8; have KT8 := bgrownV KT hg8 NT.out; have KR8 := bgrownV KR hg8 NR.out; replace zt := z2 KT8; replace zr := z2 KR8; obtain ⟨A', n', c', rfl⟩ : ∃ A' n' c', v' = Value.slice A' n' c' := (by obtain ⟨A', c', hs⟩ := Kd.R_slice hr8; exact ⟨_, _, _, hs⟩); clear hr8 hb8 hg8 hat8)
   have hs8 := s_ins (okf := fun k => w.heap.size + 3 ≤ k) (N := w2.heap.size) (N2 := w6.heap.size) HR8.out HRL.out HJ.out HM.out HX.out HP.out (by rcases HA8.out with h | ⟨b, h, hb⟩; exact .inl h; exact .inr ⟨b, h, by have := N67.out; rw [World.size_alloc] at hb; omega⟩) (fun k hk => hk.2) (fun k hk => ⟨hk.1, by have := hk.2; omega⟩) (by omega) (fun k hk => by rcases hk with h | h | h; exact h.1; have := h.1; omega; omega) (fun k hne hlt => by rw [HG8.out.block k (by have := N67.out; rw [World.size_alloc]; omega) hne, Below.heap_alloc _ _ _ (by have := N67.out; omega)]; exact HW67.out.block k hlt)
   have hres : setP (⟨y0, y1, y2, y3, y4, y5⟩ : S51) t1 = t1.take j ++ [⟨y0, y1, y2, y3, y4, y5⟩] ++ t1.drop j := by
    unfold setP gtP
    dsimp only
    rw [hp, if_neg (by omega)]
    rw [if_neg (by rw [hgt]; omega), hgt, Int.toNat_natCast]
   rw [HR1.out] at hres
   rw [← hres] at hs8
   have HS8 := Aside0.mk hs8
   clear hs8 hres
   try simp only [Exit.inBlock, Exit.then]
   refine bodyPost_ret (results_cell_row rfl _ _ (w.heap.size + 1 + 1) 26 #[.slice A' n' c', .int .i64 t2] (0, 0) _ rfl (by refine blk_put (cs := #[.slice A' n' c', .int .i64 0]) ?_ 1 _ rfl; refine blk_put (cs := #[.slice none 0 0, .int .i64 0]) ?_ 0 _ rfl; rw [Below.heap_setCell _ _ _ _ (by simp; omega)]; exact KR8.out) Tryz.underlying26 rfl (by kernel_rfl)) rfl ?_
   refine ⟨_, rfl, ?_, ?_⟩
   ·exact Kd.S_mono (Kd.S_far (Kd.S_far (Kd.S_far HS8.out (fun k hk => by dsimp only; omega) _) (fun k hk => by dsimp only; omega) _) (fun k hk => by dsimp only; omega) _) (fun _ _ => trivial)
   ·exact ((HB8.out.setCell (by dsimp only; omega) _).setCell (by dsimp only; omega) _).setCell (by dsimp only; omega) _
end Go.Proofs.YtkcfmbggdkkfeaaGreatDoor.P
