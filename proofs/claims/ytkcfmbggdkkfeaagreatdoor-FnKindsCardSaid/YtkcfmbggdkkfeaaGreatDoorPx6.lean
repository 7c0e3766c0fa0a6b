-- By this session's own program (wip/myprint.py) out of the translation; Lean checks it.
import Derived.Test.YtkcfmbggdkkfeaaGreatDoorPx0
import Derived.Test.YtkcfmbggdkkfeaaGreatDoorPx2
namespace Go.Proofs.YtkcfmbggdkkfeaaGreatDoor.P
open Go.RowKit Go.Proofs.YtkcfmbggdkkfeaaGreatDoorW.PrintWords Go.Proofs.YtkcfmbggdkkfeaaGreatDoorW.PrintLast Go.Proofs.YtkcfmbggdkkfeaaGreatDoorW.PrintMore
attribute [local go_sem] max2_int min2_int max_two min_two max_three min_three max_four min_four   -- for this text's walks alone
set_option linter.unusedVariables false
set_option linter.unusedSimpArgs false

/-! ### slices_Contains_int_int: function 67 -/
theorem rSpotC {α : Type} {d : Kd α} {e base n c : Nat} {ok : Nat → Prop} {w : World} {A : Option Addr} {xs : List α} (h : d.R e w base ok (.slice A n c) xs) : ∀ ad, A = some ad → 0 < xs.length → ad.spot = none := by
 intro ad hA _
 subst hA
 obtain ⟨g, rfl⟩ := Kd.R_head h
 rfl
def slices_Contains_int_int.f (l : List Int) (x : Int) : Option Bool := if l.length ≤ 9223372036854775807 then some (l.contains x) else none
theorem slices_Contains_int_int.calls (A0 : Option Addr) (c0 : Nat) (l0 : List Int) (a1 : Int) (r : Bool) (w : World) (hr0 : Kd.C (Kd.int .i64) w A0 l0.length l0) (hc0 : l0.length ≤ c0) (h : slices_Contains_int_int.f l0 a1 = some r) (hA : ∀ ad, A0 = some ad → 0 < l0.length → ad.spot = none := by first | exact rSpotC (by first | (with_reducible assumption) | exact Aside0.out (by with_reducible assumption))) :
  Calls Tryz.prog 67 #[.slice A0 l0.length c0, .int .i64 a1] w fun e w' => e = .returned (.bool r) ∧ Below w.heap.size w w' := by
 unfold slices_Contains_int_int.f at h
 split at h
 case isFalse => cases h
 case isTrue hl =>
 obtain rfl := Option.some.inj h
 by_cases h0 : l0.length = 0
 ·obtain rfl := List.eq_nil_of_length_eq_zero h0
  exact (Any.slices_Contains_int_empty Tryz.lays107 A0 c0 a1 w).mono fun e w' ⟨he, hw⟩ => ⟨he, hw ▸ Below.refl _ _⟩
 ·obtain ⟨ad, e0, _⟩ := Kd.at_int hr0 0 (by omega) (by omega)
  subst e0
  have hsp := hA ad rfl (by omega)
  obtain ⟨bk, o, sp⟩ := ad
  have hsp : sp = none := hsp
  subst hsp
  refine (Any.slices_Contains_int Tryz.lays107 bk o l0.length c0 l0 a1 w (Nat.le_refl _) hl (fun j hj => ?_)).mono fun e w' ⟨he, hw⟩ => ⟨by rw [he, List.take_length], hw ▸ Below.refl _ _⟩
  obtain ⟨ad', e', hx⟩ := Kd.at_int hr0 (j : Int) (by omega) (by omega)
  injection e' with e'
  subst e'
  rw [Int.toNat_natCast, Addr.add_lit] at hx
  rw [hx]
  simp [rd]
/-! ### slices_Sort_int_int: function 68 -/
def sortI (l : List Int) : List Int := l.mergeSort fun x y => decide (x ≤ y)
theorem sortI_length (l : List Int) : (sortI l).length = l.length := List.length_mergeSort ..
/-- slices.Sort of a row of the call's own: it is in order behind it. -/
theorem sortOwn.calls (A : Option Addr) (c b0 : Nat) (ok : Nat → Prop) (l : List Int) (w : World) (ho : Kd.R (Kd.int .i64) 3 w b0 ok (.slice A l.length c) l) (hl : l.length < 4611686018427387904) :
  Calls Tryz.prog 68 #[.slice A l.length c] w fun e w' => e = .returned (.tuple #[]) ∧ Kd.R (Kd.int .i64) 3 w' b0 ok (.slice A l.length c) (sortI l) ∧ w.grownBy w' (Value.slice A l.length c).ownBlock := by
 have ho' := ho
 obtain ⟨hok, inner, ⟨hil, hown⟩, hrep⟩ := ho
 rcases hown with ⟨he, h0⟩ | ⟨g, cap, cur, he, hbg, hh, hnc, hcm, hcs, hin⟩
 ·obtain rfl := List.eq_nil_of_length_eq_zero h0
  refine (Any.slices_Sort_int_none Tryz.lays189 A c w).mono fun e w' ⟨he, hw⟩ => ⟨he, ?_, ?_⟩
  ·subst hw; rw [show sortI [] = [] from List.eq_nil_of_length_eq_zero (by rw [sortI_length]; rfl)]; exact ho'
  ·subst hw; exact ⟨rfl, rfl, rfl, Nat.le_refl _, fun _ _ _ => rfl⟩
 ·injection he with ha _ hc
  subst ha; subst hc
  rw [show (Kd.int .i64).sz = 1 from rfl] at hil hcs hin hrep
  have hen := Kd.reps_encs (enc := Value.int .i64) hrep
  rw [hen, Nat.mul_one] at hin
  have hgw : g < w.heap.size := blk_lt hh
  refine (Any.slices_Sort_int Tryz.lays189 g 0 c l w (holds_of_blockI hh hin) hgw hl).mono fun e w' ⟨he, n, os, hw⟩ => ?_
  subst hw
  refine ⟨he, ⟨fun k hk => hok k hk, (sortI l).map (Value.int .i64), ?_, ?_⟩, grownBy_sortedI _⟩
  ·rw [sortI_length]
   exact ownsRow_sortedI (ss := l) (sortI_length l) hbg hh hnc hcm hcs
  ·exact Kd.reps_scalar (enc := Value.int .i64) (sortI l)
/-! ### impl_Reached: function 39 -/
mutual
def impl_Reached.l0 : Nat → List Int → List Int → List (S51) → Int → Option (List Int)
 | 0, _, _, _, _ => none
 | k + 1, x3, x4, x218000, x218001 => if (x4.length : Int) > 0 then (if 0 < (x4.length : Int) then (if 1 ≤ (x4.length : Int) then ((some (x4.drop (1 : Int).toNat : List Int)).bind fun y225 => ((impl_InodeAt.f k x218000 x218001 (rd x4 0)).bind fun bt228 => (if bt228.2.2.2.2.2.2 = true then ((slices_Contains_int_int.f x3 (rd x4 0)).bind fun t242 => (impl_Reached.j1 k x3 y225 (rd x4 0) t242 x218000 x218001 bt228.1 bt228.2.1 bt228.2.2.1 bt228.2.2.2.1 bt228.2.2.2.2.1 bt228.2.2.2.2.2.1)) else (impl_Reached.j1 k x3 y225 (rd x4 0) true x218000 x218001 bt228.1 bt228.2.1 bt228.2.2.1 bt228.2.2.2.1 bt228.2.2.2.2.1 bt228.2.2.2.2.2.1)))) else (none)) else (none)) else (if x3.length < 4611686018427387904 then some (sortI x3) else none)
def impl_Reached.j1 : Nat → List Int → List Int → Int → Bool → List (S51) → Int → Int → Int → Int → List Int → List (S65) → List (S71) → Option (List Int)
 | 0, _, _, _, _, _, _, _, _, _, _, _, _ => none
 | k + 1, x3, x4, x5, x32, x218000, x218001, x242000, x242001, x242002, x242003, x242004, x242005 => if x32 = true then (impl_Reached.l0 k x3 x4 x218000 x218001) else (if x3.length < 17592186044416 then ((some (x3 ++ [x5] : List Int)).bind fun y243 => (if x242001 = 2 then (impl_Reached.l1 k y243 x4 x242004 (x242004.length : Int) 0 x218000 x218001) else (impl_Reached.l0 k y243 x4 x218000 x218001))) else (none))
def impl_Reached.l1 : Nat → List Int → List Int → List (S65) → Int → Int → List (S51) → Int → Option (List Int)
 | 0, _, _, _, _, _, _, _ => none
 | k + 1, x3, x4, x41, x42, x43, x218000, x218001 => if x43 < x42 then (if 0 ≤ x43 then (if x43 < (x41.length : Int) then (if x4.length < 17592186044416 then (impl_Reached.l1 k x3 (x4 ++ [(rd_T65 x41 x43).f1]) x41 x42 (wrap64 (x43 + 1)) x218000 x218001) else (none)) else (none)) else (none)) else (impl_Reached.l0 k x3 x4 x218000 x218001)
end
def impl_Reached.f (k : Nat) (l0_0 : List (S51)) (a0_1 : Int) : Option (List Int) := impl_Reached.l0 k (([] : List Int)) (([1] : List Int)) l0_0 a0_1
set_option maxHeartbeats 8000000 in
set_option maxRecDepth 100000 in
theorem impl_Reached.calls (k : Nat) (A0_0 : Option Addr) (c0_0 : Nat) (l0_0 : List (S51)) (a0_1 : Int) (r : List Int) (w : World) (hr0_0 : Kd.C k51 w A0_0 l0_0.length l0_0) (hc0_0 : l0_0.length ≤ c0_0) (h : impl_Reached.f k l0_0 a0_1 = some r) :
  Calls Tryz.prog 39 #[.agg #[.slice A0_0 l0_0.length c0_0, .int .i64 a0_1]] w fun e w' => ∃ v0_ : Value, e = .returned (v0_) ∧ Kd.R (Kd.int .i64) 3 w' w.heap.size (fun _ => True) v0_ r ∧ Below w.heap.size w w' := by
 have hu26 := Tryz.underlying26
 have hu51 := Tryz.underlying51
 have hu65 := Tryz.underlying65
 have HR0_0 := Aside0.mk hr0_0
 have HC0_0 := Aside0.mk hc0_0
 clear hr0_0 hc0_0
 have HB := Aside0.mk (Below.refl w.heap.size w)
 unfold impl_Reached.f at h
 have H := h
 clear h
 obtain ⟨y218, hy218⟩ : ∃ y_ : List Int, y_ = (([] : List Int)) := ⟨_, rfl⟩
 replace H : (impl_Reached.l0 k y218 (([1] : List Int)) l0_0 a0_1) = some r := by first | (rw [hy218]; with_reducible exact H) | (have H2_ := (Option.bind_some _ _).symm.trans H; rw [hy218]; with_reducible exact H2_) | (have H2_ := (Option.bind_some _ _).symm.trans H; with_reducible exact H2_) | with_reducible exact H | (rw [hy218]; exact H) | exact H
 have Ny218 := Aside0.mk hy218
 clear hy218
 obtain ⟨y221, hy221⟩ : ∃ y_ : List Int, y_ = (([1] : List Int)) := ⟨_, rfl⟩
 replace H : (impl_Reached.l0 k y218 y221 l0_0 a0_1) = some r := by first | (rw [hy221]; with_reducible exact H) | (have H2_ := (Option.bind_some _ _).symm.trans H; rw [hy221]; with_reducible exact H2_) | (have H2_ := (Option.bind_some _ _).symm.trans H; with_reducible exact H2_) | with_reducible exact H | (rw [hy221]; exact H) | exact H
 have Ny221 := Aside0.mk hy221
 clear hy221
 have H' := Aside0.mk H
 clear H
 go_enter Tryz.func39, Tryz.ntmps39
 go_wp2_with (first | ((with_reducible refine gate_dst (N := 1) rfl ?_); refine bx_ 1 #[.slice A0_0 l0_0.length c0_0, .int .i64 a0_1] 26 ?_; intro gb217 hg w2 hbox hb; have BK217 := Aside0.mk (hbox); have GW217 := gs_ hg; replace HB := Aside0.mk (below_step oB hb); clear hb hbox hg) | ((with_reducible refine gate_dst (N := 10) rfl ?_); refine Kd.R_lit (Kd.int .i64) _ 3 ?hg (N := 10) ?hd (xs := ([] : List Int)) (inner := []) (ok := fun _ => True) (okp := fun _ => True) ?hr ?hp (fun _ hk => hk) trivial (Below.refl _ _) (Nat.le_refl _) (by simp) ?_; (case hd => rfl); (case hg => rfl); (case hr => first | (go_simp; done) | (go_simp; rfl)); (case hp => exact (Reps.none _ _)); intro v219 w3 ho4 hb hg_ hnew_; clear hg_ hnew_; (first | rw [← Ny218.out] at ho4 | (simp only [Int.reduceToNat] at ho4; rw [← Ny218.out] at ho4)); have HO220 := Aside0.mk (Kd.R_lower ho4 (below_size oB)); replace BK217 := kb_ BK217 hb; replace HB := Aside0.mk (below_step oB hb); clear hb ho4) | ((with_reducible refine gate_dst (N := 11) rfl ?_); refine Kd.R_lit (Kd.int .i64) _ 3 ?hg (N := 11) ?hd (xs := ([1] : List Int)) (inner := [.int .i64 1]) (ok := fun _ => True) (okp := fun _ => True) ?hr ?hp (fun _ hk => hk) trivial (Below.refl _ _) (Nat.le_refl _) (by simp) ?_; (case hd => rfl); (case hg => rfl); (case hr => first | (go_simp; done) | (go_simp; rfl)); (case hp => exact (Reps.one (show Kd.M (Kd.int .i64) _ _ _ 1 [.int .i64 1] from rfl) (Reps.none _ _))); intro v222 w5 ho6 hb hg_ hnew_; clear hg_ hnew_; (first | rw [← Ny221.out] at ho6 | (simp only [Int.reduceToNat] at ho6; rw [← Ny221.out] at ho6)); have HO223 := Aside0.mk (Kd.R_lower (Kd.R_new' ho6 (kl_ HO220)) (below_size oB)); replace HO220 := ke_ HO220 ho6 hb; replace BK217 := kb_ BK217 hb; replace HB := Aside0.mk (below_step oB hb); clear hb ho6))
 go_loopg [3, 4] k (fun kq v3 v4 w' => ∃ (x3_1 : List Int) (x4_1 : List Int), Aside0 (impl_Reached.l0 kq x3_1 x4_1 l0_0 a0_1 = some r) ∧ Aside0 (kq ≤ k) ∧ Aside0 (Kd.R (Kd.int .i64) 3 w' w.heap.size (fun k_ => some k_ ≠ (v4 : Value).ownBlock) v3 x3_1) ∧ Aside0 (Kd.Q (Kd.int .i64) 3 w' w.heap.size (fun k_ => some k_ ≠ (v3 : Value).ownBlock) v4 x4_1) ∧ Aside0 (w'.heap[gb217]? = some (.cells #[(.slice A0_0 l0_0.length c0_0), .int .i64 a0_1] 26 (0, 0))) ∧ Aside0 (Below w.heap.size w w'))
 case atStart => exact ⟨(y218), (y221), H', ⟨Nat.le_refl _⟩, ⟨by (with_reducible repeat (first | apply Kd.R_alloc | apply Kd.R_drewN | apply Kd.R_drew)); exact Kd.R_mono HO220.out (fun _ hk => hk.2)⟩, ⟨Kd.Q_of_R (by (with_reducible repeat (first | apply Kd.R_alloc | apply Kd.R_drewN | apply Kd.R_drew)); exact Kd.R_mono HO223.out (fun _ hk => hk.2))⟩, ⟨oF BK217⟩, ⟨oB⟩⟩
 case round =>
  clear H'
  obtain ⟨x3_1, x4_1, HA, HK1, HO_3, HO_4, BK217, HB⟩ := hrel
  cases gk with
  | zero => exact absurd HA.out (by simp [impl_Reached.l0])
  | succ k1 =>
   have H := HA.out
   clear HA
   simp only [impl_Reached.l0] at H
   by_cases c7 : (x4_1.length : Int) > 0
   ·rw [if_pos c7] at H
    have c7b0 : decide (0 < (x4_1.length : Int)) = true := decide_eq_true c7
    have c7b1 : decide (0 < x4_1.length) = true := decide_eq_true (by omega)
    clear c7
    by_cases c8 : 0 < (x4_1.length : Int)
    ·rw [if_pos c8] at H
     have c8b0 : decide (0 < (x4_1.length : Int)) = true := decide_eq_true c8
     have c8b1 : decide (0 < x4_1.length) = true := decide_eq_true (by omega)
     clear c8
     by_cases c9 : 1 ≤ (x4_1.length : Int)
     ·rw [if_pos c9] at H
      have c9b0 := eq_true c9
      have c9b1 : decide (1 ≤ (x4_1.length : Int)) = true := decide_eq_true c9
      clear c9
      obtain ⟨y225, hy225⟩ : ∃ y_ : List Int, y_ = (x4_1.drop (1 : Int).toNat) := ⟨_, rfl⟩
      replace H : ((impl_InodeAt.f k1 l0_0 a0_1 (rd x4_1 0)).bind fun bt228 => (if bt228.2.2.2.2.2.2 = true then ((slices_Contains_int_int.f x3_1 (rd x4_1 0)).bind fun t242 => (impl_Reached.j1 k1 x3_1 y225 (rd x4_1 0) t242 l0_0 a0_1 bt228.1 bt228.2.1 bt228.2.2.1 bt228.2.2.2.1 bt228.2.2.2.2.1 bt228.2.2.2.2.2.1)) else (impl_Reached.j1 k1 x3_1 y225 (rd x4_1 0) true l0_0 a0_1 bt228.1 bt228.2.1 bt228.2.2.1 bt228.2.2.2.1 bt228.2.2.2.2.1 bt228.2.2.2.2.2.1))) = some r := by first | (rw [hy225]; with_reducible exact H) | (have H2_ := (Option.bind_some _ _).symm.trans H; rw [hy225]; with_reducible exact H2_) | (have H2_ := (Option.bind_some _ _).symm.trans H; with_reducible exact H2_) | with_reducible exact H | (rw [hy225]; exact H) | exact H
      have Ny225 := Aside0.mk hy225
      clear hy225
      replace H := bA H
      obtain ⟨⟨t228, t229, t230, t231, t234, t237, t240⟩, A10, H⟩ := H
      try dsimp only at H
      have HC11 := Aside0.mk H
      clear H
      obtain ⟨Ao12, co12, eo12, _⟩ := Kd.Q_slice HO_4.out
      subst eo12
      have p224 : 0 ≤ (0 : Int) := (by omega)
      have q224 : 0 < (x4_1.length : Int) := oa
      obtain ⟨ad224, e224, hx224_0⟩ := Kd.at_int (Kd.Q_reads' HO_4.out).2.2 0 p224 q224
      cases e224
      have qi224 : (0 < x4_1.length) = True := eq_true (by omega)
      (try rw [show ((0 : Int)).toNat = 0 from rfl] at hx224_0)
      (try rw [Addr.add_zero'] at hx224_0)
      replace p224 := eq_true p224
      replace q224 := eq_true q224
      have q13 : (1 : Int) ≤ ((x4_1.length : Int) : Int) := oa
      obtain ⟨i013, hi013, _, hsz13, _⟩ := info_parts info3
      have hcut13 := cut_from (P := Tryz.prog) 61 3 .i64 Tryz.underlying61 hi013 1 hsz13 (some ad224) x4_1.length co12 1 (by omega) q13
      have hr13 := Kd.Q_drop (k := (1 : Int).toNat) HO_4.out (by omega)
      obtain ⟨A13, hA13⟩ : ∃ A1, A1 = (if co12 = (1 : Int).toNat then (some ad224) else ((some ad224) : Option Addr).map (·.add ((1 : Int).toNat * 1))) := ⟨_, rfl⟩
      obtain ⟨c13, hc13⟩ : ∃ c1, c1 = co12 - (1 : Int).toNat := ⟨_, rfl⟩
      have hy13 : y225.length = x4_1.length - (1 : Int).toNat := (by rw [Ny225.out, List.length_drop])
      rw [← Ny225.out] at hr13
      rw [← hy13, ← hA13, ← hc13] at hcut13
      replace hr13 : Kd.Q (Kd.int .i64) 3 wr w.heap.size (fun k_ => some k_ ≠ (u3 : Value).ownBlock) (.slice A13 y225.length c13) y225 := (by rw [hA13, hc13, hy13]; exact hr13)
      have HE13 : Aside0 ((Value.slice A13 y225.length c13).ownBlock = (.slice (some ad224) x4_1.length co12 : Value).ownBlock) := ⟨by rw [hA13]; split <;> (cases ((some ad224) : Option Addr) <;> rfl)⟩
      clear hy13 hi013 hsz13 HO_4 hA13 hc13
      have HO227 := Aside0.mk hr13
      clear hr13
      replace q13 := eq_true q13
      have n_ := Aside0.mk (Kd.R_mono (ok' := fun k_ => some k_ ≠ (.slice A13 y225.length c13 : Value).ownBlock) HO_3.out (fun k_ hk => (by rw [HE13.out]; exact hk)))
      clear HO_3
      have HO_3 := n_
      clear n_
      obtain ⟨⟨_, _⟩, _, _⟩ := z2 BK217
      go_upto_region 7 with (first | ((with_reducible refine gate_callee (f := 42) rfl ?_); refine gl_ 23 Tryz.func42 (impl_InodeAt.calls k1 _ _ l0_0 a0_1 (rd x4_1 0) t228 t229 t230 t231 t234 t237 t240 _ (kC HR0_0) HC0_0.out A10.out) ?_; rintro e w15 ⟨v232, v235, v238, rfl, ho0, ho1, ho2, hb⟩; refine ⟨_, rfl, ?_⟩; have HO233 := Aside0.mk (Kd.R_lower ho0 (below_size oB)); have HO236 := Aside0.mk (Kd.R_lower ho1 (below_size oB)); have HO239 := Aside0.mk (Kd.R_lower ho2 (below_size oB)); replace HO_3 := kr_ HO_3 hb; replace HO227 := beQ0 HO227 hb; replace BK217 := kb_ BK217 hb; replace HB := Aside0.mk (below_step oB hb); (try clear ho1); (try clear ho2)) | ((with_reducible refine gate_dst (N := 6) rfl ?_); refine bx_ 6 #[.int .i64 0, .int .i64 0, .int .i64 0, .slice none 0 0, .slice none 0 0, .slice none 0 0] 51 ?_; intro gb241 hg w16 hbox hb; have BK241 := Aside0.mk (hbox); have GW241 := gs_ hg; have NB217_241 := nl_ hg BK217; have NB241_217 := nr_ hg BK217; replace HO_3 := kr_ HO_3 hb; replace HO227 := beQ0 HO227 hb; replace HO233 := kr_ HO233 hb; replace HO236 := kr_ HO236 hb; replace HO239 := kr_ HO239 hb; replace BK217 := kb_ BK217 hb; replace HB := Aside0.mk (below_step oB hb); clear hb hbox hg; have hnb17 := NB241_217.out; have hnc17 := NB217_241.out; obtain ⟨⟨_, _, _, _, _, _⟩, _, _, _, _, _, _⟩ := z6 BK241; obtain ⟨Ao19, co19, eo19⟩ := Kd.R_slice HO233.out; subst eo19; obtain ⟨Ao20, co20, eo20⟩ := Kd.R_slice HO236.out; subst eo20; obtain ⟨Ao21, co21, eo21⟩ := Kd.R_slice HO239.out; subst eo21))
      (try simp only [Act.put, List.setIfInBounds_toArray, List.set_cons_zero, List.set_cons_succ])
      go_cut [32] (fun v32 wc => ∃ (kq : Nat) (x32_10 : Bool), v32 = .bool x32_10 ∧ Aside0 (impl_Reached.j1 kq x3_1 y225 (rd x4_1 0) x32_10 l0_0 a0_1 t228 t229 t230 t231 t234 t237 = some r) ∧ Aside0 (kq ≤ k1) ∧ Aside0 (Kd.R (Kd.int .i64) 3 wc w.heap.size (fun k_ => some k_ ≠ ((.slice A13 y225.length c13) : Value).ownBlock) u3 x3_1) ∧ Aside0 (Kd.Q (Kd.int .i64) 3 wc w.heap.size (fun k_ => some k_ ≠ (u3 : Value).ownBlock) (.slice A13 y225.length c13) y225) ∧ Aside0 (Kd.R (Kd.int .u8) 5 wc w.heap.size (fun _ => True) (.slice Ao19 t231.length co19) t231) ∧ Aside0 (Kd.R k65 65 wc w.heap.size (fun _ => True) (.slice Ao20 t234.length co20) t234) ∧ Aside0 (Kd.R k71 71 wc w.heap.size (fun _ => True) (.slice Ao21 t237.length co21) t237) ∧ Aside0 (wc.heap[gb217]? = some (.cells #[(.slice A0_0 l0_0.length c0_0), .int .i64 a0_1] 26 (0, 0))) ∧ Aside0 (wc.heap[gb241]? = some (.cells #[.int .i64 t228, .int .i64 t229, .int .i64 t230, (.slice Ao19 t231.length co19), (.slice Ao20 t234.length co20), (.slice Ao21 t237.length co21)] 51 (0, 0))) ∧ Aside0 (Below w.heap.size w wc))
      case first =>
       have H := HC11.out
       clear HC11
       replace H := itB H
       rcases H with ⟨rfl, H⟩ | ⟨rfl, H⟩
       ·replace H := bA H
        obtain ⟨t242, A23, H⟩ := H
        try dsimp only at H
        have H' := Aside0.mk H
        clear H
        obtain ⟨Ao24, co24, eo24⟩ := Kd.R_slice HO_3.out
        subst eo24
        go_wp2_with (first | (go_at_call 67; (with_reducible refine (slices_Contains_int_int.calls _ _ x3_1 (rd x4_1 0) t242 _ (rcR1 HO_3 BK241) (ko HO_3) A23.out).mono ?_); rintro e w25 ⟨rfl, hb⟩; replace HO_3 := beR1 HO_3 BK241 hb; replace HO227 := beQ1 HO227 BK241 hb; replace HO233 := beR1 HO233 BK241 hb; replace HO236 := beR1 HO236 BK241 hb; replace HO239 := beR1 HO239 BK241 hb; replace BK217 := kb_ BK217 hb; replace BK241 := kp_ #[.int .i64 t228, .int .i64 t229, .int .i64 t230, .slice Ao19 t231.length co19, .slice Ao20 t234.length co20, .slice Ao21 t237.length co21] BK241 hb; replace HB := Aside0.mk (below_step oB hb); (try clear hk)))
        go_meet
        case rel => exact ⟨_, (t242), oS, H', ⟨by have := HK1.out; first | omega | exact Nat.le_refl _⟩, ⟨oR HO_3⟩, ⟨by (with_reducible repeat (first | apply Kd.Q_alloc | apply Kd.Q_drewN | apply Kd.Q_drew)); exact HO227.out⟩, ⟨oR HO233⟩, ⟨oR HO236⟩, ⟨oR HO239⟩, ⟨oF BK217⟩, ⟨oF BK241⟩, ⟨oB⟩⟩
       ·have H' := Aside0.mk H
        clear H
        go_wp2
        go_meet
        case rel => exact ⟨_, (true), oS, H', ⟨by have := HK1.out; first | omega | exact Nat.le_refl _⟩, ⟨by (with_reducible repeat (first | apply Kd.R_alloc | apply Kd.R_drewN | apply Kd.R_drew)); exact Kd.R_mono (Kd.R_far (p := ⟨gb241, 5, none⟩) (Kd.R_far (p := ⟨gb241, 4, none⟩) (Kd.R_far (p := ⟨gb241, 3, none⟩) (Kd.R_far (p := ⟨gb241, 2, none⟩) (Kd.R_far (p := ⟨gb241, 1, none⟩) (Kd.R_far (p := ⟨gb241, 0, none⟩) (Kd.R_types HO_3.out BK241.out (by decide)) (fun _ hk => hk.2) (.int .i64 t228)) (fun _ hk => hk.2) (.int .i64 t229)) (fun _ hk => hk.2) (.int .i64 t230)) (fun _ hk => hk.2) (.slice Ao19 t231.length co19)) (fun _ hk => hk.2) (.slice Ao20 t234.length co20)) (fun _ hk => hk.2) (.slice Ao21 t237.length co21)) (fun _ hk => hk.1)⟩, ⟨by (with_reducible repeat (first | apply Kd.Q_alloc | apply Kd.Q_drewN | apply Kd.Q_drew)); exact Kd.Q_mono (Kd.Q_far (p := ⟨gb241, 5, none⟩) (Kd.Q_far (p := ⟨gb241, 4, none⟩) (Kd.Q_far (p := ⟨gb241, 3, none⟩) (Kd.Q_far (p := ⟨gb241, 2, none⟩) (Kd.Q_far (p := ⟨gb241, 1, none⟩) (Kd.Q_far (p := ⟨gb241, 0, none⟩) (Kd.Q_types HO227.out BK241.out (by decide)) (fun _ hk => hk.2) (.int .i64 t228)) (fun _ hk => hk.2) (.int .i64 t229)) (fun _ hk => hk.2) (.int .i64 t230)) (fun _ hk => hk.2) (.slice Ao19 t231.length co19)) (fun _ hk => hk.2) (.slice Ao20 t234.length co20)) (fun _ hk => hk.2) (.slice Ao21 t237.length co21)) (fun _ hk => hk.1)⟩, ⟨by (with_reducible repeat (first | apply Kd.R_alloc | apply Kd.R_drewN | apply Kd.R_drew)); exact Kd.R_mono (Kd.R_far (p := ⟨gb241, 5, none⟩) (Kd.R_far (p := ⟨gb241, 4, none⟩) (Kd.R_far (p := ⟨gb241, 3, none⟩) (Kd.R_far (p := ⟨gb241, 2, none⟩) (Kd.R_far (p := ⟨gb241, 1, none⟩) (Kd.R_far (p := ⟨gb241, 0, none⟩) (Kd.R_types HO233.out BK241.out (by decide)) (fun _ hk => hk.2) (.int .i64 t228)) (fun _ hk => hk.2) (.int .i64 t229)) (fun _ hk => hk.2) (.int .i64 t230)) (fun _ hk => hk.2) (.slice Ao19 t231.length co19)) (fun _ hk => hk.2) (.slice Ao20 t234.length co20)) (fun _ hk => hk.2) (.slice Ao21 t237.length co21)) (fun _ hk => trivial)⟩, ⟨by (with_reducible repeat (first | apply Kd.R_alloc | apply Kd.R_drewN | apply Kd.R_drew)); exact Kd.R_mono (Kd.R_far (p := ⟨gb241, 5, none⟩) (Kd.R_far (p := ⟨gb241, 4, none⟩) (Kd.R_far (p := ⟨gb241, 3, none⟩) (Kd.R_far (p := ⟨gb241, 2, none⟩) (Kd.R_far (p := ⟨gb241, 1, none⟩) (Kd.R_far (p := ⟨gb241, 0, none⟩) (Kd.R_types HO236.out BK241.out (by decide)) (fun _ hk => hk.2) (.int .i64 t228)) (fun _ hk => hk.2) (.int .i64 t229)) (fun _ hk => hk.2) (.int .i64 t230)) (fun _ hk => hk.2) (.slice Ao19 t231.length co19)) (fun _ hk => hk.2) (.slice Ao20 t234.length co20)) (fun _ hk => hk.2) (.slice Ao21 t237.length co21)) (fun _ hk => trivial)⟩, ⟨by (with_reducible repeat (first | apply Kd.R_alloc | apply Kd.R_drewN | apply Kd.R_drew)); exact Kd.R_mono (Kd.R_far (p := ⟨gb241, 5, none⟩) (Kd.R_far (p := ⟨gb241, 4, none⟩) (Kd.R_far (p := ⟨gb241, 3, none⟩) (Kd.R_far (p := ⟨gb241, 2, none⟩) (Kd.R_far (p := ⟨gb241, 1, none⟩) (Kd.R_far (p := ⟨gb241, 0, none⟩) (Kd.R_types HO239.out BK241.out (by decide)) (fun _ hk => hk.2) (.int .i64 t228)) (fun _ hk => hk.2) (.int .i64 t229)) (fun _ hk => hk.2) (.int .i64 t230)) (fun _ hk => hk.2) (.slice Ao19 t231.length co19)) (fun _ hk => hk.2) (.slice Ao20 t234.length co20)) (fun _ hk => hk.2) (.slice Ao21 t237.length co21)) (fun _ hk => trivial)⟩, ⟨oF BK217⟩, ⟨oP BK241⟩, ⟨oB⟩⟩
      case rest =>
       clear HC11
       try clear c7
       try clear c7b0
       try clear c7b1
       try clear c8
       try clear c8b0
       try clear c8b1
       try clear c9
       obtain ⟨kq, x32_10, rfl, HA, HJ10, HO_3, HO_4, HO_242003, HO_242004, HO_242005, BK217, BK241, HB⟩ := hcut
       cases kq with
       | zero => exact absurd HA.out (by simp [impl_Reached.j1])
       | succ kj10 =>
        have H := HA.out
        clear HA
        simp only [impl_Reached.j1] at H
        replace H := itB H
        rcases H with ⟨rfl, H⟩ | ⟨rfl, H⟩
        ·have H' := Aside0.mk H
         clear H
         go_wp2
         go_roundg kj10
         case measure => have := HK1.out; have := HJ10.out; omega
         case rel => exact ⟨(x3_1), (y225), H', ⟨by have := HK1.out; have := HJ10.out; omega⟩, ⟨oR HO_3⟩, ⟨by (with_reducible repeat (first | apply Kd.Q_alloc | apply Kd.Q_drewN | apply Kd.Q_drew)); exact HO_4.out⟩, ⟨oF BK217⟩, ⟨oB⟩⟩
        ·by_cases c27 : x3_1.length < 17592186044416
         ·rw [if_pos c27] at H
          have LMc27 := Aside0.mk c27
          clear c27
          obtain ⟨y243, hy243⟩ : ∃ y_ : List Int, y_ = (x3_1 ++ [(rd x4_1 0)]) := ⟨_, rfl⟩
          replace H : (if t229 = 2 then (impl_Reached.l1 kj10 y243 y225 t234 (t234.length : Int) 0 l0_0 a0_1) else (impl_Reached.l0 kj10 y243 y225 l0_0 a0_1)) = some r := by first | (rw [hy243]; with_reducible exact H) | (have H2_ := (Option.bind_some _ _).symm.trans H; rw [hy243]; with_reducible exact H2_) | (have H2_ := (Option.bind_some _ _).symm.trans H; with_reducible exact H2_) | with_reducible exact H | (rw [hy243]; exact H) | exact H
          have Ny243 := Aside0.mk hy243
          clear hy243
          by_cases c28 : t229 = 2
          ·rw [if_pos c28] at H
           have c28b0 : (t229 == 2) = true := beq_iff_eq.mpr c28
           have c28b1 : (t229 != 2) = false := bne_eq_false_iff_eq.mpr c28
           clear c28
           have H' := Aside0.mk H
           clear H
           go_wp2_with (first | ((with_reducible refine gate_builtin (b := .append) (xs := #[.tmp 33, .tmp 35]) rfl ?_); at_builtin; refine Kd.R_append (Kd.int .i64) (w0 := w) w.heap.size rfl (.tmp 33) (.tmp 35) 61 3 (.int .i64 0) 8 rfl Tryz.underlying61 info3 rfl (by decide) (by omega) u3 x3_1 (rd x4_1 0) [.int .i64 (rd x4_1 0)] (fun k_ => some k_ ≠ (.slice A13 y225.length c13 : Value).ownBlock) (fun _ => False) rfl rfl ?aP (fun _ hk => hk.elim) ?aF ?aO ?aB ?aS ?aL ?_; (case aP => exact rfl); (case aB => exact oB); (case aF => exact (fun k_ hk => Kd.fresh' (ltQ0 HO_4) k_ hk)); (case aO => exact (oR HO_3)); (case aS => exact (below_size oB)); (case aL => have := LMc27.out; omega); intro v244 w29 ho hb hg hat; rw [← Ny243.out] at ho; have HO245 := Aside0.mk (ho); replace HO_4 := Aside0.mk (Kd.Q_after (ok := (fun _ => True)) (by (with_reducible repeat (first | apply Kd.Q_alloc | apply Kd.Q_drewN | apply Kd.Q_drew)); exact Kd.Q_mono HO_4.out (fun _ hk => ⟨trivial, hk⟩)) hg hat); replace HO_242003 := Aside0.mk (Kd.R_over' (oR HO_242003) (Kd.R_typed (oR HO_3)) (by decide) hg); replace HO_242004 := Aside0.mk (Kd.R_over' (oR HO_242004) (Kd.R_typed (oR HO_3)) (by decide) hg); replace HO_242005 := Aside0.mk (Kd.R_over' (oR HO_242005) (Kd.R_typed (oR HO_3)) (by decide) hg); replace BK217 := Aside0.mk (blk_grown (g := gb217) (o := .cells #[.slice A0_0 l0_0.length c0_0, .int .i64 a0_1] 26 (0, 0)) (oF BK217) hg (Kd.R_ne HO_3.out BK217.out (by decide))); replace BK241 := Aside0.mk (blk_grown (g := gb241) (o := .cells #[.int .i64 t228, .int .i64 t229, .int .i64 t230, .slice Ao19 t231.length co19, .slice Ao20 t234.length co20, .slice Ao21 t237.length co21] 51 (0, 0)) (oF BK241) hg (Kd.R_ne HO_3.out BK241.out (by decide))); replace HB := Aside0.mk (hb); clear HO_3; clear ho hb hg hat; have hnb30 := NB241_217.out; have hnc30 := NB217_241.out; obtain ⟨⟨_, _, _, _, _, _⟩, _, _, _, _, _, _⟩ := z6 BK241))
           go_loopg [4, 43] kj10 (fun kq v4 v43 w' => ∃ (x4_3 : List Int) (x43_3 : Int), v43 = .int .i64 x43_3 ∧ Aside0 (impl_Reached.l1 kq y243 x4_3 t234 (t234.length : Int) x43_3 l0_0 a0_1 = some r) ∧ Aside0 (kq ≤ kj10) ∧ Aside0 (Kd.R (Kd.int .i64) 3 w' w.heap.size (fun k_ => some k_ ≠ (v4 : Value).ownBlock) v244 y243) ∧ Aside0 (Kd.Q (Kd.int .i64) 3 w' w.heap.size (fun k_ => some k_ ≠ (v244 : Value).ownBlock) v4 x4_3) ∧ Aside0 (Kd.R k65 65 w' w.heap.size (fun _ => True) (.slice Ao20 t234.length co20) t234) ∧ Aside0 (Kd.R (Kd.int .u8) 5 w' w.heap.size (fun _ => True) (.slice Ao19 t231.length co19) t231) ∧ Aside0 (Kd.R k65 65 w' w.heap.size (fun _ => True) (.slice Ao20 t234.length co20) t234) ∧ Aside0 (Kd.R k71 71 w' w.heap.size (fun _ => True) (.slice Ao21 t237.length co21) t237) ∧ Aside0 (w'.heap[gb217]? = some (.cells #[(.slice A0_0 l0_0.length c0_0), .int .i64 a0_1] 26 (0, 0))) ∧ Aside0 (w'.heap[gb241]? = some (.cells #[.int .i64 t228, .int .i64 t229, .int .i64 t230, (.slice Ao19 t231.length co19), (.slice Ao20 t234.length co20), (.slice Ao21 t237.length co21)] 51 (0, 0))) ∧ Aside0 (Below w.heap.size w w'))
           case atStart => exact ⟨(y225), (0), oS, H', ⟨Nat.le_refl _⟩, ⟨oR HO245⟩, ⟨by (with_reducible repeat (first | apply Kd.Q_alloc | apply Kd.Q_drewN | apply Kd.Q_drew)); exact Kd.Q_mono HO_4.out (fun _ hk => hk.2)⟩, ⟨oR HO_242004⟩, ⟨oR HO_242003⟩, ⟨oR HO_242004⟩, ⟨oR HO_242005⟩, ⟨oF BK217⟩, ⟨oF BK241⟩, ⟨oB⟩⟩
           case round =>
            clear H'
            try clear c7
            try clear c7b0
            try clear c7b1
            try clear c8
            try clear c8b0
            try clear c8b1
            try clear c9
            try clear c27
            try clear c28
            obtain ⟨x4_3, x43_3, rfl, HA, HK3, HO_3, HO_4, HO_41, HO_242003, HO_242004, HO_242005, BK217, BK241, HB⟩ := hrel
            cases gk with
            | zero => exact absurd HA.out (by simp [impl_Reached.l1])
            | succ k3 =>
             have H := HA.out
             clear HA
             simp only [impl_Reached.l1] at H
             replace H := itD H
             rcases H with ⟨c32b0, H⟩ | ⟨c32b0, H⟩
             ·replace H := itD H
              rcases H with ⟨c33b0, H⟩ | ⟨c33b0, H⟩
              ·replace H := itD H
               rcases H with ⟨c34b0, H⟩ | ⟨c34b0, H⟩
               ·by_cases c35 : x4_3.length < 17592186044416
                ·rw [if_pos c35] at H
                 have LMc35 := Aside0.mk c35
                 clear c35
                 obtain ⟨y248, hy248⟩ : ∃ y_ : List Int, y_ = (x4_3 ++ [(rd_T65 t234 x43_3).f1]) := ⟨_, rfl⟩
                 replace H : (impl_Reached.l1 k3 y243 y248 t234 (t234.length : Int) (wrap64 (x43_3 + 1)) l0_0 a0_1) = some r := by first | (rw [hy248]; with_reducible exact H) | (have H2_ := (Option.bind_some _ _).symm.trans H; rw [hy248]; with_reducible exact H2_) | (have H2_ := (Option.bind_some _ _).symm.trans H; with_reducible exact H2_) | with_reducible exact H | (rw [hy248]; exact H) | exact H
                 have Ny248 := Aside0.mk hy248
                 clear hy248
                 have H' := Aside0.mk H
                 clear H
                 have p246 : (0 ≤ (x43_3 : Int)) = True := oT
                 have q246 : (x43_3 < (t234.length : Int)) = True := oT
                 obtain ⟨ad246, e246, hx246_0, hx246_1⟩ := at_T65 (Kd.R_reads' HO_41.out).2.2 x43_3 oa oa
                 cases e246
                 go_wp2_with (first | ((with_reducible refine gate_dst (N := 9) rfl ?_); refine bx_ 9 #[.string (⟨#[]⟩ : ByteArray), .int .i64 0] 65 ?_; intro gb247 hg w36 hbox hb; have BK247 := Aside0.mk (hbox); have GW247 := gs_ hg; have NB217_247 := nl_ hg BK217; have NB247_217 := nr_ hg BK217; have NB241_247 := nl_ hg BK241; have NB247_241 := nr_ hg BK241; replace HO_3 := kr_ HO_3 hb; replace HO_4 := beQ0 HO_4 hb; replace HO_41 := Aside0.mk (Kd.R_below (Kd.R_elderB (oR HO_41) gb247 (Nat.le_of_eq hg.symm)) hb); replace HO_242003 := kr_ HO_242003 hb; replace HO_242004 := Aside0.mk (Kd.R_below (Kd.R_elderB (oR HO_242004) gb247 (Nat.le_of_eq hg.symm)) hb); replace HO_242005 := kr_ HO_242005 hb; replace BK217 := kb_ BK217 hb; replace BK241 := kb_ BK241 hb; replace HB := Aside0.mk (below_step oB hb); clear hb hbox hg; have hnb37 := NB247_217.out; have hnc37 := NB217_247.out; have hnb38 := NB247_241.out; have hnc38 := NB241_247.out; obtain ⟨⟨_, _⟩, _, _⟩ := z2 BK247) | ((with_reducible refine gate_builtin (b := .append) (xs := #[.tmp 47, .tmp 50]) rfl ?_); at_builtin; refine Kd.Q_append (Kd.int .i64) (w0 := w) w.heap.size rfl (.tmp 47) (.tmp 50) 61 3 (.int .i64 0) 8 rfl Tryz.underlying61 info3 rfl (by decide) (by omega) u4 x4_3 ((rd_T65 t234 x43_3).f1) [.int .i64 ((rd_T65 t234 x43_3).f1)] (fun k_ => some k_ ≠ (v244 : Value).ownBlock) (fun _ => False) rfl (by first | (go_simp; done) | (go_simp; rfl)) ?aP (fun _ hk => hk.elim) ?aF ?aO ?aB ?aS ?aL ?_; (case aP => exact rfl); (case aB => exact oB); (case aF => exact (fun k_ hk => Kd.fresh' (ltR1 HO_3 BK247) k_ hk)); (case aO => exact (by (with_reducible repeat (first | apply Kd.Q_alloc | apply Kd.Q_drewN | apply Kd.Q_drew)); exact Kd.Q_mono (Kd.Q_far (p := ⟨gb247, 1, none⟩) (Kd.Q_far (p := ⟨gb247, 0, none⟩) (Kd.Q_types HO_4.out BK247.out (by decide)) (fun _ hk => hk.2) (.string ((rd_T65 t234 x43_3).f0))) (fun _ hk => hk.2) (.int .i64 ((rd_T65 t234 x43_3).f1))) (fun _ hk => hk.1))); (case aS => exact (below_size oB)); (case aL => have := LMc35.out; omega); intro v249 w40 ho hb hg hat; rw [← Ny248.out] at ho; have HO250 := Aside0.mk (ho); replace HO_3 := Aside0.mk (Kd.R_after (ok := (fun _ => True)) (by (with_reducible repeat (first | apply Kd.R_alloc | apply Kd.R_drewN | apply Kd.R_drew)); exact Kd.R_mono (Kd.R_far (p := ⟨gb247, 1, none⟩) (Kd.R_far (p := ⟨gb247, 0, none⟩) (Kd.R_types HO_3.out BK247.out (by decide)) (fun _ hk => hk.2) (.string ((rd_T65 t234 x43_3).f0))) (fun _ hk => hk.2) (.int .i64 ((rd_T65 t234 x43_3).f1))) (fun _ hk => ⟨trivial, hk.1⟩)) hg hat); replace HO_41 := Aside0.mk (Kd.R_over' (nR2 HO_41 gb247 (fun _ hk => hk.2)) (Kd.Q_typed (nQ1 HO_4 BK247)) (by decide) hg); replace HO_242003 := Aside0.mk (Kd.R_over' (nR1 HO_242003 BK247) (Kd.Q_typed (nQ1 HO_4 BK247)) (by decide) hg); replace HO_242004 := Aside0.mk (Kd.R_over' (nR2 HO_242004 gb247 (fun _ hk => hk.2)) (Kd.Q_typed (nQ1 HO_4 BK247)) (by decide) hg); replace HO_242005 := Aside0.mk (Kd.R_over' (nR1 HO_242005 BK247) (Kd.Q_typed (nQ1 HO_4 BK247)) (by decide) hg); replace BK217 := Aside0.mk (blk_grown (g := gb217) (o := .cells #[.slice A0_0 l0_0.length c0_0, .int .i64 a0_1] 26 (0, 0)) (oF BK217) hg (Kd.Q_ne HO_4.out BK217.out (by decide))); replace BK241 := Aside0.mk (blk_grown (g := gb241) (o := .cells #[.int .i64 t228, .int .i64 t229, .int .i64 t230, .slice Ao19 t231.length co19, .slice (some ad246) t234.length co20, .slice Ao21 t237.length co21] 51 (0, 0)) (oF BK241) hg (Kd.Q_ne HO_4.out BK241.out (by decide))); replace BK247 := Aside0.mk (blk_grown (g := gb247) (o := .cells #[.string ((rd_T65 t234 x43_3).f0), .int .i64 ((rd_T65 t234 x43_3).f1)] 65 (0, 0)) (oP BK247) hg (Kd.Q_ne HO_4.out BK247.out (by decide))); replace HB := Aside0.mk (hb); clear HO_4; clear ho hb hg hat))
                 go_roundg k3
                 case measure => have := HK1.out; have := HJ10.out; have := HK3.out; omega
                 case rel => exact ⟨(y248), (wrap64 (x43_3 + 1)), oS, H', ⟨by have := HK1.out; have := HJ10.out; have := HK3.out; omega⟩, ⟨by (with_reducible repeat (first | apply Kd.R_alloc | apply Kd.R_drewN | apply Kd.R_drew)); exact Kd.R_mono HO_3.out (fun _ hk => hk.2)⟩, ⟨by (with_reducible repeat (first | apply Kd.Q_alloc | apply Kd.Q_drewN | apply Kd.Q_drew)); exact HO250.out⟩, ⟨by (with_reducible repeat (first | apply Kd.R_alloc | apply Kd.R_drewN | apply Kd.R_drew)); exact Kd.R_mono HO_41.out (fun _ hk => trivial)⟩, ⟨oR HO_242003⟩, ⟨by (with_reducible repeat (first | apply Kd.R_alloc | apply Kd.R_drewN | apply Kd.R_drew)); exact Kd.R_mono HO_242004.out (fun _ hk => trivial)⟩, ⟨oR HO_242005⟩, ⟨oF BK217⟩, ⟨oF BK241⟩, ⟨oB⟩⟩
                ·rw [if_neg c35] at H
                 exact absurd H (by simp)
               ·cases H
              ·cases H
             ·have H' := Aside0.mk H
              clear H
              go_wp2
              go_roundg k3
              case measure => have := HK1.out; have := HJ10.out; have := HK3.out; omega
              case rel => exact ⟨(y243), (x4_3), H', ⟨by have := HK1.out; have := HJ10.out; have := HK3.out; omega⟩, ⟨oR HO_3⟩, ⟨by (with_reducible repeat (first | apply Kd.Q_alloc | apply Kd.Q_drewN | apply Kd.Q_drew)); exact HO_4.out⟩, ⟨oF BK217⟩, ⟨oB⟩⟩
          ·rw [if_neg c28] at H
           have c28b0 : (t229 == 2) = false := beq_eq_false_iff_ne.mpr c28
           have c28b1 : (t229 != 2) = true := bne_iff_ne.mpr c28
           have H' := Aside0.mk H
           clear H
           go_wp2_with (first | ((with_reducible refine gate_builtin (b := .append) (xs := #[.tmp 33, .tmp 35]) rfl ?_); at_builtin; refine Kd.R_append (Kd.int .i64) (w0 := w) w.heap.size rfl (.tmp 33) (.tmp 35) 61 3 (.int .i64 0) 8 rfl Tryz.underlying61 info3 rfl (by decide) (by omega) u3 x3_1 (rd x4_1 0) [.int .i64 (rd x4_1 0)] (fun k_ => some k_ ≠ (.slice A13 y225.length c13 : Value).ownBlock) (fun _ => False) rfl rfl ?aP (fun _ hk => hk.elim) ?aF ?aO ?aB ?aS ?aL ?_; (case aP => exact rfl); (case aB => exact oB); (case aF => exact (fun k_ hk => Kd.fresh' (ltQ0 HO_4) k_ hk)); (case aO => exact (oR HO_3)); (case aS => exact (below_size oB)); (case aL => have := LMc27.out; omega); intro v244 w41 ho hb hg hat; rw [← Ny243.out] at ho; have HO245 := Aside0.mk (ho); replace HO_4 := Aside0.mk (Kd.Q_after (ok := (fun _ => True)) (by (with_reducible repeat (first | apply Kd.Q_alloc | apply Kd.Q_drewN | apply Kd.Q_drew)); exact Kd.Q_mono HO_4.out (fun _ hk => ⟨trivial, hk⟩)) hg hat); replace HO_242003 := Aside0.mk (Kd.R_over' (oR HO_242003) (Kd.R_typed (oR HO_3)) (by decide) hg); replace HO_242004 := Aside0.mk (Kd.R_over' (oR HO_242004) (Kd.R_typed (oR HO_3)) (by decide) hg); replace HO_242005 := Aside0.mk (Kd.R_over' (oR HO_242005) (Kd.R_typed (oR HO_3)) (by decide) hg); replace BK217 := Aside0.mk (blk_grown (g := gb217) (o := .cells #[.slice A0_0 l0_0.length c0_0, .int .i64 a0_1] 26 (0, 0)) (oF BK217) hg (Kd.R_ne HO_3.out BK217.out (by decide))); replace BK241 := Aside0.mk (blk_grown (g := gb241) (o := .cells #[.int .i64 t228, .int .i64 t229, .int .i64 t230, .slice Ao19 t231.length co19, .slice Ao20 t234.length co20, .slice Ao21 t237.length co21] 51 (0, 0)) (oF BK241) hg (Kd.R_ne HO_3.out BK241.out (by decide))); replace HB := Aside0.mk (hb); clear HO_3; clear ho hb hg hat; have hnb42 := NB241_217.out; have hnc42 := NB217_241.out; obtain ⟨⟨_, _, _, _, _, _⟩, _, _, _, _, _, _⟩ := z6 BK241))
           go_roundg kj10
           case measure => have := HK1.out; have := HJ10.out; omega
           case rel => exact ⟨(y243), (y225), H', ⟨by have := HK1.out; have := HJ10.out; omega⟩, ⟨oR HO245⟩, ⟨by (with_reducible repeat (first | apply Kd.Q_alloc | apply Kd.Q_drewN | apply Kd.Q_drew)); exact Kd.Q_mono HO_4.out (fun _ hk => hk.2)⟩, ⟨oF BK217⟩, ⟨oB⟩⟩
         ·rw [if_neg c27] at H
          exact absurd H (by simp)
     ·rw [if_neg c9] at H
      exact absurd H (by simp)
    ·rw [if_neg c8] at H
     exact absurd H (by simp)
   ·rw [if_neg c7] at H
    have c7b0 : decide (0 < (x4_1.length : Int)) = false := decide_eq_false c7
    have c7b1 : decide (0 < x4_1.length) = false := decide_eq_false (by omega)
    clear c7
    split at H
    case isFalse => cases H
    case isTrue hsl_ =>
    obtain rfl := Option.some.inj H
    obtain ⟨Ao44, co44, eo44, _⟩ := Kd.Q_slice HO_4.out
    subst eo44
    obtain ⟨Aq_, cq_, rfl⟩ := Kd.R_slice HO_3.out
    go_wp2_with (go_at_call 68; refine (sortOwn.calls Aq_ cq_ w.heap.size (fun _ => True) x3_1 _ (Kd.R_mono (nR0 HO_3) (fun _ _ => trivial)) hsl_).mono ?_; rintro e w9_ ⟨rfl, hs_, hg_⟩)
    go_ret
    exact ⟨_, oE, hs_, (oB : Below w.heap.size w _).grown hg_ (below_size oB) (fun k_ hk_ => Kd.R_base hs_ k_ hk_)⟩

/-! ### impl_LinksOf: function 40 -/
mutual
def impl_LinksOf.l0 : Nat → Int → Int → List (S51) → Int → Int → Option (Int)
 | 0, _, _, _, _, _ => none
 | k + 1, x1, x5, x11, x12, x13 => if x13 < x12 then (if 0 ≤ x13 then (if x13 < (x11.length : Int) then (if ((rd_T51 x11 x13).f1) = 2 then (impl_LinksOf.l1 k x1 x5 x11 x12 x13 ((rd_T51 x11 x13).f4) (((rd_T51 x11 x13).f4).length : Int) 0) else (impl_LinksOf.l0 k x1 x5 x11 x12 (wrap64 (x13 + 1)))) else (none)) else (none)) else (some x5)
def impl_LinksOf.l1 : Nat → Int → Int → List (S51) → Int → Int → List (S65) → Int → Int → Option (Int)
 | 0, _, _, _, _, _, _, _, _ => none
 | k + 1, x1, x5, x11, x12, x13, x21, x22, x23 => if x23 < x22 then (if 0 ≤ x23 then (if x23 < (x21.length : Int) then (if ((rd_T65 x21 x23).f1) = x1 then (impl_LinksOf.l1 k x1 (wrap64 (x5 + 1)) x11 x12 x13 x21 x22 (wrap64 (x23 + 1))) else (impl_LinksOf.l1 k x1 x5 x11 x12 x13 x21 x22 (wrap64 (x23 + 1)))) else (none)) else (none)) else (impl_LinksOf.l0 k x1 x5 x11 x12 (wrap64 (x13 + 1)))
end
def impl_LinksOf.f (k : Nat) (l0_0 : List (S51)) (a0_1 : Int) (a1 : Int) : Option (Int) := impl_LinksOf.l0 k a1 0 l0_0 (l0_0.length : Int) 0
set_option maxHeartbeats 8000000 in
set_option maxRecDepth 100000 in
theorem impl_LinksOf.calls (k : Nat) (A0_0 : Option Addr) (c0_0 : Nat) (l0_0 : List (S51)) (a0_1 : Int) (a1 : Int) (r : Int) (w : World) (hr0_0 : Kd.C k51 w A0_0 l0_0.length l0_0) (hc0_0 : l0_0.length ≤ c0_0) (h : impl_LinksOf.f k l0_0 a0_1 a1 = some r) :
  Calls Tryz.prog 40 #[.agg #[.slice A0_0 l0_0.length c0_0, .int .i64 a0_1], .int .i64 a1] w fun e w' => e = .returned (.int .i64 r) ∧ Below w.heap.size w w' := by
 have hu26 := Tryz.underlying26
 have hu51 := Tryz.underlying51
 have hu65 := Tryz.underlying65
 have HR0_0 := Aside0.mk hr0_0
 have HC0_0 := Aside0.mk hc0_0
 clear hr0_0 hc0_0
 have HB := Aside0.mk (Below.refl w.heap.size w)
 unfold impl_LinksOf.f at h
 have H := h
 clear h
 have H' := Aside0.mk H
 clear H
 go_enter Tryz.func40, Tryz.ntmps40
 go_wp2_with (first | ((with_reducible refine gate_dst (N := 2) rfl ?_); refine bx_ 2 #[.slice A0_0 l0_0.length c0_0, .int .i64 a0_1] 26 ?_; intro gb251 hg w3 hbox hb; have BK251 := Aside0.mk (hbox); have GW251 := gs_ hg; replace HB := Aside0.mk (below_step oB hb); clear hb hbox hg; obtain ⟨⟨_, _⟩, _, _⟩ := z2 BK251))
 go_loopg [5, 13] k (fun kq v5 v13 w' => ∃ (x5_1 : Int) (x13_1 : Int), v5 = .int .i64 x5_1 ∧ v13 = .int .i64 x13_1 ∧ Aside0 (impl_LinksOf.l0 kq a1 x5_1 l0_0 (l0_0.length : Int) x13_1 = some r) ∧ Aside0 (kq ≤ k) ∧ Aside0 (w'.heap[gb251]? = some (.cells #[(.slice A0_0 l0_0.length c0_0), .int .i64 a0_1] 26 (0, 0))) ∧ Aside0 (Below w.heap.size w w'))
 case atStart => exact ⟨(0), (0), oS, oS, H', ⟨Nat.le_refl _⟩, ⟨oF BK251⟩, ⟨oB⟩⟩
 case round =>
  clear H'
  obtain ⟨x5_1, x13_1, rfl, rfl, HA, HK1, BK251, HB⟩ := hrel
  cases gk with
  | zero => exact absurd HA.out (by simp [impl_LinksOf.l0])
  | succ k1 =>
   have H := HA.out
   clear HA
   simp only [impl_LinksOf.l0] at H
   replace H := itD H
   rcases H with ⟨c5b0, H⟩ | ⟨c5b0, H⟩
   ·replace H := itD H
    rcases H with ⟨c6b0, H⟩ | ⟨c6b0, H⟩
    ·replace H := itD H
     rcases H with ⟨c7b0, H⟩ | ⟨c7b0, H⟩
     ·by_cases c8 : ((rd_T51 l0_0 x13_1).f1) = 2
      ·rw [if_pos c8] at H
       have c8b0 : (((rd_T51 l0_0 x13_1).f1) == 2) = true := beq_iff_eq.mpr c8
       have c8b1 : (((rd_T51 l0_0 x13_1).f1) != 2) = false := bne_eq_false_iff_eq.mpr c8
       clear c8
       have H' := Aside0.mk H
       clear H
       have p252 : (0 ≤ (x13_1 : Int)) = True := oT
       have q252 : (x13_1 < (l0_0.length : Int)) = True := oT
       obtain ⟨ad252, A252_3, c252_3, A252_4, c252_4, A252_5, c252_5, e252, hx252_0, hx252_1, hx252_2, hx252_3, hx252_4, hx252_5, hl252_3, hi252_3, hl252_4, hi252_4, hl252_5, hi252_5⟩ := at_T51 HR0_0.out x13_1 oa oa
       cases e252
       replace hx252_0 := cB HB hx252_0
       replace hx252_1 := cB HB hx252_1
       replace hx252_2 := cB HB hx252_2
       replace hx252_3 := cB HB hx252_3
       replace hx252_4 := cB HB hx252_4
       replace hx252_5 := cB HB hx252_5
       have HR252_3 := Aside0.mk hi252_3
       have HC252_3 := Aside0.mk hl252_3
       clear hi252_3 hl252_3
       have HR252_4 := Aside0.mk hi252_4
       have HC252_4 := Aside0.mk hl252_4
       clear hi252_4 hl252_4
       have HR252_5 := Aside0.mk hi252_5
       have HC252_5 := Aside0.mk hl252_5
       clear hi252_5 hl252_5
       go_wp2_with (first | ((with_reducible refine gate_dst (N := 7) rfl ?_); refine bx_ 7 #[.int .i64 0, .int .i64 0, .int .i64 0, .slice none 0 0, .slice none 0 0, .slice none 0 0] 51 ?_; intro gb253 hg w9 hbox hb; have BK253 := Aside0.mk (hbox); have GW253 := gs_ hg; have NB251_253 := nl_ hg BK251; have NB253_251 := nr_ hg BK251; replace BK251 := kb_ BK251 hb; replace HB := Aside0.mk (below_step oB hb); clear hb hbox hg; have hnb10 := NB253_251.out; have hnc10 := NB251_253.out; obtain ⟨⟨_, _, _, _, _, _⟩, _, _, _, _, _, _⟩ := z6 BK253))
       go_loopg [5, 23] k1 (fun kq v5 v23 w' => ∃ (x5_2 : Int) (x23_2 : Int), v5 = .int .i64 x5_2 ∧ v23 = .int .i64 x23_2 ∧ Aside0 (impl_LinksOf.l1 kq a1 x5_2 l0_0 (l0_0.length : Int) x13_1 ((rd_T51 l0_0 x13_1).f4) (((rd_T51 l0_0 x13_1).f4).length : Int) x23_2 = some r) ∧ Aside0 (kq ≤ k1) ∧ Aside0 (w'.heap[gb251]? = some (.cells #[(.slice (some ad252) l0_0.length c0_0), .int .i64 a0_1] 26 (0, 0))) ∧ Aside0 (w'.heap[gb253]? = some (.cells #[.int .i64 ((rd_T51 l0_0 x13_1).f0), .int .i64 ((rd_T51 l0_0 x13_1).f1), .int .i64 ((rd_T51 l0_0 x13_1).f2), (.slice A252_3 ((rd_T51 l0_0 x13_1).f3).length c252_3), (.slice A252_4 ((rd_T51 l0_0 x13_1).f4).length c252_4), (.slice A252_5 ((rd_T51 l0_0 x13_1).f5).length c252_5)] 51 (0, 0))) ∧ Aside0 (Below w.heap.size w w'))
       case atStart => exact ⟨(x5_1), (0), oS, oS, H', ⟨Nat.le_refl _⟩, ⟨oF BK251⟩, ⟨oP BK253⟩, ⟨oB⟩⟩
       case round =>
        clear H'
        try clear c5b0
        try clear c6b0
        try clear c7b0
        try clear c8
        obtain ⟨x5_2, x23_2, rfl, rfl, HA, HK2, BK251, BK253, HB⟩ := hrel
        cases gk with
        | zero => exact absurd HA.out (by simp [impl_LinksOf.l1])
        | succ k2 =>
         have H := HA.out
         clear HA
         simp only [impl_LinksOf.l1] at H
         replace H := itD H
         rcases H with ⟨c12b0, H⟩ | ⟨c12b0, H⟩
         ·replace H := itD H
          rcases H with ⟨c13b0, H⟩ | ⟨c13b0, H⟩
          ·replace H := itD H
           rcases H with ⟨c14b0, H⟩ | ⟨c14b0, H⟩
           ·by_cases c15 : ((rd_T65 ((rd_T51 l0_0 x13_1).f4) x23_2).f1) = a1
            ·rw [if_pos c15] at H
             have c15b0 : (((rd_T65 ((rd_T51 l0_0 x13_1).f4) x23_2).f1) == a1) = true := beq_iff_eq.mpr c15
             have c15b1 : (((rd_T65 ((rd_T51 l0_0 x13_1).f4) x23_2).f1) != a1) = false := bne_eq_false_iff_eq.mpr c15
             clear c15
             have H' := Aside0.mk H
             clear H
             have p254 : (0 ≤ (x23_2 : Int)) = True := oT
             have q254 : (x23_2 < (((rd_T51 l0_0 x13_1).f4).length : Int)) = True := oT
             obtain ⟨ad254, e254, hx254_0, hx254_1⟩ := at_T65 HR252_4.out x23_2 oa oa
             cases e254
             replace hx254_0 := cB HB hx254_0
             replace hx254_1 := cB HB hx254_1
             go_wp2_with (first | ((with_reducible refine gate_dst (N := 9) rfl ?_); refine bx_ 9 #[.string (⟨#[]⟩ : ByteArray), .int .i64 0] 65 ?_; intro gb255 hg w16 hbox hb; have BK255 := Aside0.mk (hbox); have GW255 := gs_ hg; have NB251_255 := nl_ hg BK251; have NB255_251 := nr_ hg BK251; have NB253_255 := nl_ hg BK253; have NB255_253 := nr_ hg BK253; replace BK251 := kb_ BK251 hb; replace BK253 := kb_ BK253 hb; replace HB := Aside0.mk (below_step oB hb); clear hb hbox hg; have hnb17 := NB255_251.out; have hnc17 := NB251_255.out; have hnb18 := NB255_253.out; have hnc18 := NB253_255.out; obtain ⟨⟨_, _⟩, _, _⟩ := z2 BK255))
             go_roundg k2
             case measure => have := HK1.out; have := HK2.out; omega
             case rel => exact ⟨(wrap64 (x5_2 + 1)), (wrap64 (x23_2 + 1)), oS, oS, H', ⟨by have := HK1.out; have := HK2.out; omega⟩, ⟨oF BK251⟩, ⟨oF BK253⟩, ⟨oB⟩⟩
            ·rw [if_neg c15] at H
             have c15b0 : (((rd_T65 ((rd_T51 l0_0 x13_1).f4) x23_2).f1) == a1) = false := beq_eq_false_iff_ne.mpr c15
             have c15b1 : (((rd_T65 ((rd_T51 l0_0 x13_1).f4) x23_2).f1) != a1) = true := bne_iff_ne.mpr c15
             have H' := Aside0.mk H
             clear H
             have p254 : (0 ≤ (x23_2 : Int)) = True := oT
             have q254 : (x23_2 < (((rd_T51 l0_0 x13_1).f4).length : Int)) = True := oT
             obtain ⟨ad254, e254, hx254_0, hx254_1⟩ := at_T65 HR252_4.out x23_2 oa oa
             cases e254
             replace hx254_0 := cB HB hx254_0
             replace hx254_1 := cB HB hx254_1
             go_wp2_with (first | ((with_reducible refine gate_dst (N := 9) rfl ?_); refine bx_ 9 #[.string (⟨#[]⟩ : ByteArray), .int .i64 0] 65 ?_; intro gb255 hg w20 hbox hb; have BK255 := Aside0.mk (hbox); have GW255 := gs_ hg; have NB251_255 := nl_ hg BK251; have NB255_251 := nr_ hg BK251; have NB253_255 := nl_ hg BK253; have NB255_253 := nr_ hg BK253; replace BK251 := kb_ BK251 hb; replace BK253 := kb_ BK253 hb; replace HB := Aside0.mk (below_step oB hb); clear hb hbox hg; have hnb21 := NB255_251.out; have hnc21 := NB251_255.out; have hnb22 := NB255_253.out; have hnc22 := NB253_255.out; obtain ⟨⟨_, _⟩, _, _⟩ := z2 BK255))
             go_roundg k2
             case measure => have := HK1.out; have := HK2.out; omega
             case rel => exact ⟨(x5_2), (wrap64 (x23_2 + 1)), oS, oS, H', ⟨by have := HK1.out; have := HK2.out; omega⟩, ⟨oF BK251⟩, ⟨oF BK253⟩, ⟨oB⟩⟩
           ·cases H
          ·cases H
         ·have H' := Aside0.mk H
          clear H
          go_wp2
          go_roundg k2
          case measure => have := HK1.out; have := HK2.out; omega
          case rel => exact ⟨(x5_2), (wrap64 (x13_1 + 1)), oS, oS, H', ⟨by have := HK1.out; have := HK2.out; omega⟩, ⟨oF BK251⟩, ⟨oB⟩⟩
      ·rw [if_neg c8] at H
       have c8b0 : (((rd_T51 l0_0 x13_1).f1) == 2) = false := beq_eq_false_iff_ne.mpr c8
       have c8b1 : (((rd_T51 l0_0 x13_1).f1) != 2) = true := bne_iff_ne.mpr c8
       have H' := Aside0.mk H
       clear H
       have p252 : (0 ≤ (x13_1 : Int)) = True := oT
       have q252 : (x13_1 < (l0_0.length : Int)) = True := oT
       obtain ⟨ad252, A252_3, c252_3, A252_4, c252_4, A252_5, c252_5, e252, hx252_0, hx252_1, hx252_2, hx252_3, hx252_4, hx252_5, hl252_3, hi252_3, hl252_4, hi252_4, hl252_5, hi252_5⟩ := at_T51 HR0_0.out x13_1 oa oa
       cases e252
       replace hx252_0 := cB HB hx252_0
       replace hx252_1 := cB HB hx252_1
       replace hx252_2 := cB HB hx252_2
       replace hx252_3 := cB HB hx252_3
       replace hx252_4 := cB HB hx252_4
       replace hx252_5 := cB HB hx252_5
       have HR252_3 := Aside0.mk hi252_3
       have HC252_3 := Aside0.mk hl252_3
       clear hi252_3 hl252_3
       have HR252_4 := Aside0.mk hi252_4
       have HC252_4 := Aside0.mk hl252_4
       clear hi252_4 hl252_4
       have HR252_5 := Aside0.mk hi252_5
       have HC252_5 := Aside0.mk hl252_5
       clear hi252_5 hl252_5
       go_wp2_with (first | ((with_reducible refine gate_dst (N := 7) rfl ?_); refine bx_ 7 #[.int .i64 0, .int .i64 0, .int .i64 0, .slice none 0 0, .slice none 0 0, .slice none 0 0] 51 ?_; intro gb253 hg w24 hbox hb; have BK253 := Aside0.mk (hbox); have GW253 := gs_ hg; have NB251_253 := nl_ hg BK251; have NB253_251 := nr_ hg BK251; replace BK251 := kb_ BK251 hb; replace HB := Aside0.mk (below_step oB hb); clear hb hbox hg; have hnb25 := NB253_251.out; have hnc25 := NB251_253.out; obtain ⟨⟨_, _, _, _, _, _⟩, _, _, _, _, _, _⟩ := z6 BK253))
       go_roundg k1
       case measure => have := HK1.out; omega
       case rel => exact ⟨(x5_1), (wrap64 (x13_1 + 1)), oS, oS, H', ⟨by have := HK1.out; omega⟩, ⟨oF BK251⟩, ⟨oB⟩⟩
     ·cases H
    ·cases H
   ·obtain rfl := Option.some.inj H
    go_wp2
    go_ret
    exact ⟨oE, oB⟩

end Go.Proofs.YtkcfmbggdkkfeaaGreatDoor.P
