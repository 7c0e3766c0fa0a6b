-- By this session's own program (wip/myprint.py) out of the translation; Lean checks it.
import Derived.Test.YtkcfmbggdkkfeaaGreatDoorPx0
import Derived.Test.YtkcfmbggdkkfeaaGreatDoorPx2
import Derived.Test.YtkcfmbggdkkfeaaGreatDoorPx3
import Derived.Test.YtkcfmbggdkkfeaaGreatDoorPx6
import Derived.Test.YtkcfmbggdkkfeaaGreatDoorPx8
import Derived.Test.YtkcfmbggdkkfeaaGreatDoorPx12
import Derived.Test.YtkcfmbggdkkfeaaGreatDoorPx13
namespace Go.Proofs.YtkcfmbggdkkfeaaGreatDoor.P
open Go.RowKit Go.Proofs.YtkcfmbggdkkfeaaGreatDoorW.PrintWords Go.Proofs.YtkcfmbggdkkfeaaGreatDoorW.PrintLast Go.Proofs.YtkcfmbggdkkfeaaGreatDoorW.PrintMore
attribute [local go_sem] max2_int min2_int max_two min_two max_three min_three max_four min_four   -- for this text's walks alone
set_option linter.unusedVariables false
set_option linter.unusedSimpArgs false

/-! ### impl_makeAt: function 35 -/
mutual
def impl_makeAt.j0 : Nat → ByteArray → Int → Bool → List (S51) → Int → Option ((List (S51)) × Int × Int)
 | 0, _, _, _, _, _ => none
 | k + 1, x1, x2, x21, x354000, x354001 => if x21 = true then (some (x354000, x354001, 1)) else ((impl_spotOf.f k x354000 x354001 x1).bind fun bt363 => (if bt363.2.2.2.2.2.2.2 = 0 then ((impl_EntOf.f k bt363.1 bt363.2.1 bt363.2.2.1 bt363.2.2.2.1 bt363.2.2.2.2.1 bt363.2.2.2.2.2.1 bt363.2.2.2.2.2.2.1).bind fun t378 => (if t378 = 0 then (if (bt363.2.2.2.2.1.length : Int) = 10 then (impl_makeAt.j1 k x2 true x354000 x354001 bt363.1 bt363.2.1 bt363.2.2.1 bt363.2.2.2.1 bt363.2.2.2.2.1 bt363.2.2.2.2.2.1 bt363.2.2.2.2.2.2.1) else (if (x354000.length : Int) = 30 then (impl_makeAt.j1 k x2 true x354000 x354001 bt363.1 bt363.2.1 bt363.2.2.1 bt363.2.2.2.1 bt363.2.2.2.2.1 bt363.2.2.2.2.2.1 bt363.2.2.2.2.2.2.1) else (impl_makeAt.j1 k x2 (x354001 == 1000) x354000 x354001 bt363.1 bt363.2.1 bt363.2.2.1 bt363.2.2.2.1 bt363.2.2.2.2.1 bt363.2.2.2.2.2.1 bt363.2.2.2.2.2.2.1))) else (some (x354000, x354001, 4)))) else (some (x354000, x354001, bt363.2.2.2.2.2.2.2))))
def impl_makeAt.j1 : Nat → Int → Bool → List (S51) → Int → Int → Int → Int → List Int → List (S65) → List (S71) → ByteArray → Option ((List (S51)) × Int × Int)
 | 0, _, _, _, _, _, _, _, _, _, _, _ => none
 | k + 1, x2, x42, x354000, x354001, x378000, x378001, x378002, x378003, x378004, x378005, x378006 => if x42 = true then (some (x354000, x354001, 5)) else ((impl_spot_enter.f k x378000 x378001 x378002 x378003 x378004 x378005 x378006 x354000 (wrap64 (x354001 + 1)) x354001).bind fun bt380 => ((impl_SetInode.f k bt380.1 bt380.2 x354001 x2 1 ([] : List Int) ([] : List (S65)) ([] : List (S71))).bind fun bt384 => (some (bt384.1, bt384.2, 0))))
end
def impl_makeAt.f (k : Nat) (l0_0 : List (S51)) (a0_1 : Int) (a1 : ByteArray) (a2 : Int) : Option ((List (S51)) × Int × Int) := (impl_copyTab.f k l0_0 a0_1).bind fun bt355 => ((impl_ready.f k bt355.1 bt355.2 (([a1] : List ByteArray))).bind fun t362 => (if t362 = true then (impl_makeAt.j0 k a1 a2 (a1.toList == ([47] : List UInt8)) bt355.1 bt355.2) else (impl_makeAt.j0 k a1 a2 true bt355.1 bt355.2)))
def impl_makeAt.T13 : Bool × List (List Nat × List Nat) := (true, [([], []), ([], []), ([], []), ([2], [2]), ([0, 1, 3], [0, 1, 3]), ([], []), ([4, 5, 4], [4, 5]), ([6, 6, 0, 1, 2, 3, 4, 5, 6], [6]), ([7, 0, 1, 2, 3, 4, 5, 6, 7], [])])
def impl_makeAt.B13 : List Nat := [0, 0, 0, 4, 15, 0, 63, 127, 255]
theorem impl_makeAt.tab13 : rtab .any (opsOf Tryz.f35 13) = impl_makeAt.T13 := by kernel_rfl
theorem impl_makeAt.bits13 : waitsOk impl_makeAt.T13.2 impl_makeAt.B13 = true := by kernel_rfl
set_option maxHeartbeats 8000000 in
set_option maxRecDepth 100000 in
theorem impl_makeAt.calls (k : Nat) (A0_0 : Option Addr) (c0_0 : Nat) (l0_0 : List (S51)) (a0_1 : Int) (a1 : ByteArray) (a2 : Int) (r1 : List (S51)) (r2 : Int) (r3 : Int) (w : World) (hr0_0 : Kd.C k51 w A0_0 l0_0.length l0_0) (hc0_0 : l0_0.length ≤ c0_0) (h : impl_makeAt.f k l0_0 a0_1 a1 a2 = some (r1, r2, r3)) (hG : GOk w := by exact gk_ oB (by first | (with_reducible assumption) | assumption)) :
  Calls Tryz.prog 35 #[.agg #[.slice A0_0 l0_0.length c0_0, .int .i64 a0_1], .string a1, .int .i64 a2] w fun e w' => ∃ v0_ : Value, e = .returned (.tuple #[.agg #[v0_, .int .i64 r2], .int .i64 r3]) ∧ Kd.S k51 51 w' w.heap.size (fun _ => True) v0_ r1 ∧ Below w.heap.size w w' := by
 have HG := Aside0.mk hG
 clear hG
 have hu26 := Tryz.underlying26
 have hu84 := Tryz.underlying84
 have hu51 := Tryz.underlying51
 have HR0_0 := Aside0.mk hr0_0
 have HC0_0 := Aside0.mk hc0_0
 clear hr0_0 hc0_0
 have HB := Aside0.mk (Below.refl w.heap.size w)
 unfold impl_makeAt.f at h
 have H := h
 clear h
 replace H := bA H
 obtain ⟨⟨t355, t358⟩, A4, H⟩ := H
 try dsimp only at H
 have HC5 := Aside0.mk H
 clear H
 go_enter Tryz.func35, Tryz.ntmps35
 go_upto_region 2 with (first | ((with_reducible refine gate_dst (N := 3) rfl ?_); (try (refine gate_guard (by rfl) ?_; dsimp only)); refine bx_ 3 #[.slice A0_0 l0_0.length c0_0, .int .i64 a0_1] 26 ?_; intro gb353 hg w6 hbox hb; have BK353 := Aside0.mk (hbox); have GW353 := gs_ hg; replace HB := Aside0.mk (below_step oB hb); clear hb hbox hg) | ((with_reducible refine gate_dst (N := 6) rfl ?_); (try (refine gate_guard (by rfl) ?_; dsimp only)); refine bx_ 6 #[.slice none 0 0, .int .i64 0] 26 ?_; intro gb354 hg w7 hbox hb; have BK354 := Aside0.mk (hbox); have GW354 := gs_ hg; have NB353_354 := nl_ hg BK353; have NB354_353 := nr_ hg BK353; replace BK353 := kb_ BK353 hb; replace HB := Aside0.mk (below_step oB hb); clear hb hbox hg; have hnb8 := NB353_354.out; have hnc8 := NB354_353.out; obtain ⟨⟨_, _⟩, _, _⟩ := z2 BK353) | ((with_reducible refine gate_callee (f := 45) rfl ?_); refine gl_ 12 Tryz.func45 (impl_copyTab.calls k _ _ l0_0 a0_1 t355 t358 _ (kC HR0_0) HC0_0.out A4.out) ?_; rintro e w10 ⟨v356, rfl, ho0, hb⟩; refine ⟨_, rfl, ?_⟩; have HO357 := Aside0.mk (Kd.S_lower ho0 (below_size oB)); replace BK353 := kb_ BK353 hb; replace BK354 := kb_ BK354 hb; replace HB := Aside0.mk (below_step oB hb); obtain ⟨Ao11, co11, eo11⟩ := Kd.S_slice HO357.out; subst eo11; obtain ⟨⟨_, _⟩, _, _⟩ := z2 BK353))
 (try simp only [Act.put, List.setIfInBounds_toArray, List.set_cons_zero, List.set_cons_succ])
 go_cut [21] (fun v21 wc => ∃ (kq : Nat) (x21_4 : Bool), v21 = .bool x21_4 ∧ Aside0 (impl_makeAt.j0 kq a1 a2 x21_4 t355 t358 = some (r1, r2, r3)) ∧ Aside0 (kq ≤ k) ∧ Aside0 (Kd.S k51 51 wc w.heap.size (fun _ => True) (.slice Ao11 t355.length co11) t355) ∧ Aside0 (wc.heap[gb353]? = some (.cells #[(.slice Ao11 t355.length co11), .int .i64 t358] 26 (0, 0))) ∧ Aside0 (wc.heap[gb354]? = some (.cells #[(.slice none 0 0), .int .i64 0] 26 (0, 0))) ∧ Aside0 (Below w.heap.size w wc))
 case first =>
  have H := HC5.out
  clear HC5
  obtain ⟨y359, hy359⟩ : ∃ y_ : List ByteArray, y_ = (([a1] : List ByteArray)) := ⟨_, rfl⟩
  replace H : ((impl_ready.f k t355 t358 y359).bind fun t362 => (if t362 = true then (impl_makeAt.j0 k a1 a2 (a1.toList == ([47] : List UInt8)) t355 t358) else (impl_makeAt.j0 k a1 a2 true t355 t358))) = some (r1, r2, r3) := by first | (rw [hy359]; with_reducible exact H) | (have H2_ := (Option.bind_some _ _).symm.trans H; rw [hy359]; with_reducible exact H2_) | (have H2_ := (Option.bind_some _ _).symm.trans H; with_reducible exact H2_) | with_reducible exact H | (rw [hy359]; exact H) | exact H
  have Ny359 := Aside0.mk hy359
  clear hy359
  replace H := bA H
  obtain ⟨t362, A13, H⟩ := H
  try dsimp only at H
  replace H := itB H
  rcases H with ⟨rfl, H⟩ | ⟨rfl, H⟩
  ·have H' := Aside0.mk H
   clear H
   have hnb15 := NB353_354.out
   have hnc15 := NB354_353.out
   obtain ⟨⟨_, _⟩, _, _⟩ := z2 BK353
   go_wp2_with (first | ((with_reducible refine gate_dst (N := 15) rfl ?_); (try (refine gate_guard (by rfl) ?_; dsimp only)); refine Kd.R_lit Kd.string _ 9 ?hg (N := 15) ?hd (xs := ([a1] : List ByteArray)) (inner := [.string a1]) (ok := fun _ => True) (okp := fun _ => True) ?hr ?hp (fun _ hk => hk) trivial (Below.refl _ _) (Nat.le_refl _) (by simp) ?_; (case hd => rfl); (case hg => rfl); (case hr => first | (go_simp; done) | (go_simp; rfl)); (case hp => exact (Reps.one (show Kd.M Kd.string _ _ _ a1 [.string a1] from rfl) (Reps.none _ _))); intro v360 w17 ho18 hb hg_ hnew_; clear hg_ hnew_; (first | rw [← Ny359.out] at ho18 | (simp only [Int.reduceToNat] at ho18; rw [← Ny359.out] at ho18)); have HO361 := Aside0.mk (Kd.R_lower ho18 (below_size oB)); replace HO357 := beS1 HO357 BK353 hb; replace BK353 := kp_ #[.slice Ao11 t355.length co11, .int .i64 t358] BK353 hb; replace BK354 := kb_ BK354 hb; replace HB := Aside0.mk (below_step oB hb); clear hb ho18; obtain ⟨Ao19, co19, eo19⟩ := Kd.R_slice HO361.out; subst eo19) | ((with_reducible refine gate_callee (f := 46) rfl ?_); refine gl_ 16 Tryz.func46 (impl_ready.calls k _ _ t355 t358 _ _ y359 true _ (rcS0 HO357) (rnS HO357) (kO HO361) (ko HO361) A13.out) ?_; rintro e w20 ⟨rfl, hb⟩; refine ⟨_, rfl, ?_⟩; replace HO357 := beS0 HO357 hb; replace HO361 := kr_ HO361 hb; replace BK353 := kb_ BK353 hb; replace BK354 := kb_ BK354 hb; replace HB := Aside0.mk (below_step oB hb)))
   go_meet
   case rel => exact ⟨_, ((a1.toList == ([47] : List UInt8))), oS, H', ⟨by first | omega | exact Nat.le_refl _⟩, ⟨by (with_reducible repeat (first | apply Kd.S_alloc | apply Kd.S_drewN | apply Kd.S_drew)); exact HO357.out⟩, ⟨oF BK353⟩, ⟨oF BK354⟩, ⟨oB⟩⟩
  ·have H' := Aside0.mk H
   clear H
   have hnb21 := NB353_354.out
   have hnc21 := NB354_353.out
   obtain ⟨⟨_, _⟩, _, _⟩ := z2 BK353
   go_wp2_with (first | ((with_reducible refine gate_dst (N := 15) rfl ?_); (try (refine gate_guard (by rfl) ?_; dsimp only)); refine Kd.R_lit Kd.string _ 9 ?hg (N := 15) ?hd (xs := ([a1] : List ByteArray)) (inner := [.string a1]) (ok := fun _ => True) (okp := fun _ => True) ?hr ?hp (fun _ hk => hk) trivial (Below.refl _ _) (Nat.le_refl _) (by simp) ?_; (case hd => rfl); (case hg => rfl); (case hr => first | (go_simp; done) | (go_simp; rfl)); (case hp => exact (Reps.one (show Kd.M Kd.string _ _ _ a1 [.string a1] from rfl) (Reps.none _ _))); intro v360 w23 ho24 hb hg_ hnew_; clear hg_ hnew_; (first | rw [← Ny359.out] at ho24 | (simp only [Int.reduceToNat] at ho24; rw [← Ny359.out] at ho24)); have HO361 := Aside0.mk (Kd.R_lower ho24 (below_size oB)); replace HO357 := beS1 HO357 BK353 hb; replace BK353 := kp_ #[.slice Ao11 t355.length co11, .int .i64 t358] BK353 hb; replace BK354 := kb_ BK354 hb; replace HB := Aside0.mk (below_step oB hb); clear hb ho24; obtain ⟨Ao25, co25, eo25⟩ := Kd.R_slice HO361.out; subst eo25) | ((with_reducible refine gate_callee (f := 46) rfl ?_); refine gl_ 16 Tryz.func46 (impl_ready.calls k _ _ t355 t358 _ _ y359 false _ (rcS0 HO357) (rnS HO357) (kO HO361) (ko HO361) A13.out) ?_; rintro e w26 ⟨rfl, hb⟩; refine ⟨_, rfl, ?_⟩; replace HO357 := beS0 HO357 hb; replace HO361 := kr_ HO361 hb; replace BK353 := kb_ BK353 hb; replace BK354 := kb_ BK354 hb; replace HB := Aside0.mk (below_step oB hb)))
   go_meet
   case rel => exact ⟨_, (true), oS, H', ⟨by first | omega | exact Nat.le_refl _⟩, ⟨by (with_reducible repeat (first | apply Kd.S_alloc | apply Kd.S_drewN | apply Kd.S_drew)); exact HO357.out⟩, ⟨oF BK353⟩, ⟨oF BK354⟩, ⟨oB⟩⟩
 case rest =>
  clear HC5
  obtain ⟨kq, x21_4, rfl, HA, HJ4, HO_354000, BK353, BK354, HB⟩ := hcut
  cases kq with
  | zero => exact absurd HA.out (by simp [impl_makeAt.j0])
  | succ kj4 =>
   have H := HA.out
   clear HA
   simp only [impl_makeAt.j0] at H
   replace H := itB H
   rcases H with ⟨rfl, H⟩ | ⟨rfl, H⟩
   ·simp only [Option.some.injEq, Prod.mk.injEq] at H
    obtain ⟨rfl, rfl, rfl⟩ := H
    have hnb28 := NB353_354.out
    have hnc28 := NB354_353.out
    obtain ⟨⟨_, _⟩, _, _⟩ := z2 BK353
    obtain ⟨⟨_, _⟩, _, _⟩ := z2 BK354
    go_wp2
    refine bodyPost_ret (results_ct rfl _ _ gb354 26 #[.slice Ao11 t355.length co11, .int .i64 t358] (0, 0) _ rfl (oP BK354) Tryz.underlying26 rfl (by kernel_rfl)) rfl ?_
    exact ⟨_, oE, by (with_reducible repeat (first | apply Kd.S_alloc | apply Kd.S_drewN | apply Kd.S_drew)); exact Kd.S_mono (Kd.S_far (p := ⟨gb354, 1, none⟩) (Kd.S_far (p := ⟨gb354, 0, none⟩) (Kd.S_types HO_354000.out BK354.out (by decide)) (fun _ hk => hk.2) (.slice Ao11 t355.length co11)) (fun _ hk => hk.2) (.int .i64 t358)) (fun _ hk => trivial), oB⟩
   ·replace H := bA H
    obtain ⟨⟨t363, t364, t365, t366, t369, t372, t375, t376⟩, A31, H⟩ := H
    try dsimp only at H
    by_cases c32 : t376 = 0
    ·rw [if_pos c32] at H
     have c32b0 : (t376 == 0) = true := beq_iff_eq.mpr c32
     have c32b1 : (t376 != 0) = false := bne_eq_false_iff_eq.mpr c32
     clear c32
     replace H := bA H
     obtain ⟨t378, A33, H⟩ := H
     try dsimp only at H
     by_cases c34 : t378 = 0
     ·rw [if_pos c34] at H
      have c34b0 : (t378 == 0) = true := beq_iff_eq.mpr c34
      have c34b1 : (t378 != 0) = false := bne_eq_false_iff_eq.mpr c34
      clear c34
      have HC35 := Aside0.mk H
      clear H
      have hnb36 := NB353_354.out
      have hnc36 := NB354_353.out
      obtain ⟨⟨_, _⟩, _, _⟩ := z2 BK353
      go_upto_region 9 with (first | ((with_reducible refine gate_callee (f := 57) rfl ?_); refine gl_ 26 Tryz.func57 (impl_spotOf.calls kj4 _ _ t355 t358 a1 t363 t364 t365 t366 t369 t372 t375 t376 _ (rcS0 HO_354000) (rnS HO_354000) A31.out) ?_; rintro e w38 ⟨v367, v370, v373, rfl, ho0, ho1, ho2, hb⟩; refine ⟨_, rfl, ?_⟩; have HO368 := Aside0.mk (Kd.R_lower ho0 (below_size oB)); have HO371 := Aside0.mk (Kd.R_lower ho1 (below_size oB)); have HO374 := Aside0.mk (Kd.R_lower ho2 (below_size oB)); replace HO_354000 := tdS3 (olS0 HO_354000 hb) (Kd.R_base ho0) (Kd.R_base ho1) (Kd.R_base ho2); replace BK353 := kb_ BK353 hb; replace BK354 := kb_ BK354 hb; replace HB := Aside0.mk (below_step oB hb); (try clear ho1); (try clear ho2)) | ((with_reducible refine gate_dst (N := 8) rfl ?_); (try (refine gate_guard (by rfl) ?_; dsimp only)); refine bx_ 8 #[.int .i64 0, .int .i64 0, .int .i64 0, .slice none 0 0, .slice none 0 0, .slice none 0 0, .string (⟨#[]⟩ : ByteArray)] 84 ?_; intro gb377 hg w39 hbox hb; have BK377 := Aside0.mk (hbox); have GW377 := gs_ hg; have NB353_377 := nl_ hg BK353; have NB377_353 := nr_ hg BK353; have NB354_377 := nl_ hg BK354; have NB377_354 := nr_ hg BK354; replace HO_354000 := beS0 HO_354000 hb; replace HO368 := kr_ HO368 hb; replace HO371 := kr_ HO371 hb; replace HO374 := kr_ HO374 hb; replace BK353 := kb_ BK353 hb; replace BK354 := kb_ BK354 hb; replace HB := Aside0.mk (below_step oB hb); clear hb hbox hg; have hnb40 := NB377_353.out; have hnc40 := NB353_377.out; have hnb41 := NB377_354.out; have hnc41 := NB354_377.out; obtain ⟨⟨_, _, _, _, _, _, _⟩, _, _, _, _, _, _, _⟩ := z7 BK377; obtain ⟨Ao43, co43, eo43⟩ := Kd.R_slice HO368.out; subst eo43; obtain ⟨Ao44, co44, eo44⟩ := Kd.R_slice HO371.out; subst eo44; obtain ⟨Ao45, co45, eo45⟩ := Kd.R_slice HO374.out; subst eo45) | ((with_reducible refine gate_callee (f := 58) rfl ?_); refine gl_ 39 Tryz.func58 (impl_EntOf.calls kj4 t363 t364 t365 _ _ t366 _ _ t369 _ _ t372 t375 t378 _ (rcR1 HO368 BK377) (ko HO368) (rcR1 HO371 BK377) (ko HO371) (rcR1 HO374 BK377) (ko HO374) A33.out) ?_; rintro e w46 ⟨rfl, hb⟩; refine ⟨_, rfl, ?_⟩; replace HO_354000 := beS1 HO_354000 BK377 hb; replace HO368 := beR1 HO368 BK377 hb; replace HO371 := beR1 HO371 BK377 hb; replace HO374 := beR1 HO374 BK377 hb; replace BK353 := kb_ BK353 hb; replace BK354 := kb_ BK354 hb; replace BK377 := kp_ #[.int .i64 t363, .int .i64 t364, .int .i64 t365, .slice Ao43 t366.length co43, .slice Ao44 t369.length co44, .slice Ao45 t372.length co45, .string t375] BK377 hb; replace HB := Aside0.mk (below_step oB hb); (try clear hk)))
      (try simp only [Act.put, List.setIfInBounds_toArray, List.set_cons_zero, List.set_cons_succ])
      go_cut [42] (fun v42 wc => ∃ (kq : Nat) (x42_34 : Bool), v42 = .bool x42_34 ∧ Aside0 (impl_makeAt.j1 kq a2 x42_34 t355 t358 t363 t364 t365 t366 t369 t372 t375 = some (r1, r2, r3)) ∧ Aside0 (kq ≤ kj4) ∧ Aside0 (Kd.S k51 51 wc w.heap.size (fun k_ => some k_ ≠ ((.slice Ao43 t366.length co43) : Value).ownBlock ∧ some k_ ≠ ((.slice Ao44 t369.length co44) : Value).ownBlock ∧ some k_ ≠ ((.slice Ao45 t372.length co45) : Value).ownBlock) (.slice Ao11 t355.length co11) t355) ∧ Aside0 (Kd.R (Kd.int .u8) 5 wc w.heap.size (fun _ => True) (.slice Ao43 t366.length co43) t366) ∧ Aside0 (Kd.R k65 65 wc w.heap.size (fun _ => True) (.slice Ao44 t369.length co44) t369) ∧ Aside0 (Kd.R k71 71 wc w.heap.size (fun _ => True) (.slice Ao45 t372.length co45) t372) ∧ Aside0 (wc.heap[gb353]? = some (.cells #[(.slice Ao11 t355.length co11), .int .i64 t358] 26 (0, 0))) ∧ Aside0 (wc.heap[gb354]? = some (.cells #[(.slice none 0 0), .int .i64 0] 26 (0, 0))) ∧ Aside0 (wc.heap[gb377]? = some (.cells #[.int .i64 t363, .int .i64 t364, .int .i64 t365, (.slice Ao43 t366.length co43), (.slice Ao44 t369.length co44), (.slice Ao45 t372.length co45), .string t375] 84 (0, 0))) ∧ Aside0 (Below w.heap.size w wc))
      case first =>
       have H := HC35.out
       clear HC35
       by_cases c47 : (t369.length : Int) = 10
       ·rw [if_pos c47] at H
        have c47b0 : ((t369.length : Int) == 10) = true := beq_iff_eq.mpr c47
        have c47b1 : ((t369.length : Int) != 10) = false := bne_eq_false_iff_eq.mpr c47
        clear c47
        (first | rw [c47b0] | rw [c47b2] | (simp only [i64_w, i32_w]; rw [c47b0]) | skip)
        have H' := Aside0.mk H
        clear H
        have hnb48 := NB377_353.out
        have hnc48 := NB353_377.out
        have hnb49 := NB377_354.out
        have hnc49 := NB354_377.out
        obtain ⟨⟨_, _, _, _, _, _, _⟩, _, _, _, _, _, _, _⟩ := z7 BK377
        go_wp2
        go_meet
        case rel => exact ⟨_, (true), oS, H', ⟨by have := HJ4.out; first | omega | exact Nat.le_refl _⟩, ⟨by (with_reducible repeat (first | apply Kd.S_alloc | apply Kd.S_drewN | apply Kd.S_drew)); exact Kd.S_mono HO_354000.out (fun _ hk => ⟨hk.1.1.2, ⟨hk.1.2, hk.2⟩⟩)⟩, ⟨oR HO368⟩, ⟨oR HO371⟩, ⟨oR HO374⟩, ⟨oF BK353⟩, ⟨oF BK354⟩, ⟨oF BK377⟩, ⟨oB⟩⟩
       ·rw [if_neg c47] at H
        have c47b0 : ((t369.length : Int) == 10) = false := beq_eq_false_iff_ne.mpr c47
        have c47b1 : ((t369.length : Int) != 10) = true := bne_iff_ne.mpr c47
        (first | rw [c47b0] | rw [c47b2] | (simp only [i64_w, i32_w]; rw [c47b0]) | skip)
        by_cases c51 : (t355.length : Int) = 30
        ·rw [if_pos c51] at H
         have c51b0 : ((t355.length : Int) == 30) = true := beq_iff_eq.mpr c51
         have c51b1 : ((t355.length : Int) != 30) = false := bne_eq_false_iff_eq.mpr c51
         clear c51
         have H' := Aside0.mk H
         clear H
         have hnb52 := NB377_353.out
         have hnc52 := NB353_377.out
         have hnb53 := NB377_354.out
         have hnc53 := NB354_377.out
         obtain ⟨⟨_, _, _, _, _, _, _⟩, _, _, _, _, _, _, _⟩ := z7 BK377
         have hnb55 := NB353_354.out
         have hnc55 := NB354_353.out
         obtain ⟨⟨_, _⟩, _, _⟩ := z2 BK353
         go_wp2
         go_meet
         case rel => exact ⟨_, (true), oS, H', ⟨by have := HJ4.out; first | omega | exact Nat.le_refl _⟩, ⟨by (with_reducible repeat (first | apply Kd.S_alloc | apply Kd.S_drewN | apply Kd.S_drew)); exact Kd.S_mono HO_354000.out (fun _ hk => ⟨hk.1.1.2, ⟨hk.1.2, hk.2⟩⟩)⟩, ⟨oR HO368⟩, ⟨oR HO371⟩, ⟨oR HO374⟩, ⟨oF BK353⟩, ⟨oF BK354⟩, ⟨oF BK377⟩, ⟨oB⟩⟩
        ·rw [if_neg c51] at H
         have c51b0 : ((t355.length : Int) == 30) = false := beq_eq_false_iff_ne.mpr c51
         have c51b1 : ((t355.length : Int) != 30) = true := bne_iff_ne.mpr c51
         have H' := Aside0.mk H
         clear H
         have hnb57 := NB377_353.out
         have hnc57 := NB353_377.out
         have hnb58 := NB377_354.out
         have hnc58 := NB354_377.out
         obtain ⟨⟨_, _, _, _, _, _, _⟩, _, _, _, _, _, _, _⟩ := z7 BK377
         have hnb60 := NB353_354.out
         have hnc60 := NB354_353.out
         obtain ⟨⟨_, _⟩, _, _⟩ := z2 BK353
         go_wp2
         go_meet
         case rel => exact ⟨_, ((t358 == 1000)), oS, H', ⟨by have := HJ4.out; first | omega | exact Nat.le_refl _⟩, ⟨by (with_reducible repeat (first | apply Kd.S_alloc | apply Kd.S_drewN | apply Kd.S_drew)); exact Kd.S_mono HO_354000.out (fun _ hk => ⟨hk.1.1.2, ⟨hk.1.2, hk.2⟩⟩)⟩, ⟨oR HO368⟩, ⟨oR HO371⟩, ⟨oR HO374⟩, ⟨oF BK353⟩, ⟨oF BK354⟩, ⟨oF BK377⟩, ⟨oB⟩⟩
      case rest =>
       clear HC35
       try clear c32
       try clear c32b0
       try clear c32b1
       try clear c34
       obtain ⟨kq, x42_34, rfl, HA, HJ34, HO_354000, HO_378003, HO_378004, HO_378005, BK353, BK354, BK377, HB⟩ := hcut
       cases kq with
       | zero => exact absurd HA.out (by simp [impl_makeAt.j1])
       | succ kj34 =>
        have H := HA.out
        clear HA
        simp only [impl_makeAt.j1] at H
        replace H := itB H
        rcases H with ⟨rfl, H⟩ | ⟨rfl, H⟩
        ·simp only [Option.some.injEq, Prod.mk.injEq] at H
         obtain ⟨rfl, rfl, rfl⟩ := H
         have hnb63 := NB353_354.out
         have hnc63 := NB354_353.out
         have hnb64 := NB353_377.out
         have hnc64 := NB377_353.out
         obtain ⟨⟨_, _⟩, _, _⟩ := z2 BK353
         have hnb66 := NB354_377.out
         have hnc66 := NB377_354.out
         obtain ⟨⟨_, _⟩, _, _⟩ := z2 BK354
         go_wp2
         refine bodyPost_ret (results_ct rfl _ _ gb354 26 #[.slice Ao11 t355.length co11, .int .i64 t358] (0, 0) _ rfl (oP BK354) Tryz.underlying26 rfl (by kernel_rfl)) rfl ?_
         exact ⟨_, oE, by (with_reducible repeat (first | apply Kd.S_alloc | apply Kd.S_drewN | apply Kd.S_drew)); exact Kd.S_mono (Kd.S_far (p := ⟨gb354, 1, none⟩) (Kd.S_far (p := ⟨gb354, 0, none⟩) (Kd.S_types HO_354000.out BK354.out (by decide)) (fun _ hk => hk.2) (.slice Ao11 t355.length co11)) (fun _ hk => hk.2) (.int .i64 t358)) (fun _ hk => trivial), oB⟩
        ·replace H := bA H
         obtain ⟨⟨t380, t383⟩, A68, H⟩ := H
         try dsimp only at H
         replace H := bA H
         obtain ⟨⟨t384, t387⟩, A69, H⟩ := H
         try dsimp only at H
         simp only [Option.some.injEq, Prod.mk.injEq] at H
         obtain ⟨rfl, rfl, rfl⟩ := H
         have hnb70 := NB353_354.out
         have hnc70 := NB354_353.out
         have hnb71 := NB353_377.out
         have hnc71 := NB377_353.out
         obtain ⟨⟨_, _⟩, _, _⟩ := z2 BK353
         try go_wp2_with (first | ((with_reducible refine gate_dst (N := 10) rfl ?_); (try (refine gate_guard (by rfl) ?_; dsimp only)); refine bx_ 10 #[.int .i64 0, .int .i64 0, .int .i64 0, .slice none 0 0, .slice none 0 0, .slice none 0 0] 51 ?_; intro gb379 hg w73 hbox hb; have BK379 := Aside0.mk (hbox); have GW379 := gs_ hg; have NB353_379 := nl_ hg BK353; have NB379_353 := nr_ hg BK353; have NB354_379 := nl_ hg BK354; have NB379_354 := nr_ hg BK354; have NB377_379 := nl_ hg BK377; have NB379_377 := nr_ hg BK377; replace HO_354000 := Aside0.mk (Kd.S_below (Kd.S_elderB (nS0 HO_354000) gb379 (Nat.le_of_eq hg.symm)) hb); replace HO_378003 := kr_ HO_378003 hb; replace HO_378004 := kr_ HO_378004 hb; replace HO_378005 := kr_ HO_378005 hb; replace BK353 := kb_ BK353 hb; replace BK354 := kb_ BK354 hb; replace BK377 := kb_ BK377 hb; replace HB := Aside0.mk (below_step oB hb); clear hb hbox hg; have hnb74 := NB379_353.out; have hnc74 := NB353_379.out; have hnb75 := NB379_354.out; have hnc75 := NB354_379.out; have hnb76 := NB379_377.out; have hnc76 := NB377_379.out; obtain ⟨⟨_, _, _, _, _, _⟩, _, _, _, _, _, _⟩ := z6 BK379; obtain ⟨⟨_, _⟩, _, _⟩ := z2 BK353))
         have n0_ : Aside0 (Kd.S k51 51 (((((((w73.setCell ⟨gb379, 0, none⟩ (.int .i64 t358)).setCell ⟨gb379, 1, none⟩ (.int .i64 a2)).setCell ⟨gb379, 2, none⟩ (.int .i64 1)).setCell ⟨gb379, 3, none⟩ (.slice none 0 0)).setCell ⟨gb379, 4, none⟩ (.slice none 0 0)).setCell ⟨gb379, 5, none⟩ (.slice none 0 0)).setCell ⟨gb353, 1, none⟩ (.int .i64 (wrap64 (t358 + 1)))) w.heap.size (fun k_ => some k_ ≠ (.slice Ao43 t366.length co43 : Value).ownBlock ∧ some k_ ≠ (.slice Ao44 t369.length co44 : Value).ownBlock ∧ some k_ ≠ (.slice Ao45 t372.length co45 : Value).ownBlock ∧ k_ ≠ gb379) (.slice Ao11 t355.length co11) t355) := ⟨by (with_reducible repeat (first | apply Kd.S_alloc | apply Kd.S_drewN | apply Kd.S_drew)); exact Kd.S_mono (Kd.S_far (p := ⟨gb353, 1, none⟩) (Kd.S_far (p := ⟨gb379, 5, none⟩) (Kd.S_far (p := ⟨gb379, 4, none⟩) (Kd.S_far (p := ⟨gb379, 3, none⟩) (Kd.S_far (p := ⟨gb379, 2, none⟩) (Kd.S_far (p := ⟨gb379, 1, none⟩) (Kd.S_far (p := ⟨gb379, 0, none⟩) (Kd.S_types (Kd.S_mono HO_354000.out (fun k_ hk => (⟨hk, hk.2⟩ : _ ∧ k_ ≠ gb379))) BK353.out (by decide)) (fun _ hk => hk.1.2) (.int .i64 t358)) (fun _ hk => hk.1.2) (.int .i64 a2)) (fun _ hk => hk.1.2) (.int .i64 1)) (fun _ hk => hk.1.2) (.slice none 0 0)) (fun _ hk => hk.1.2) (.slice none 0 0)) (fun _ hk => hk.1.2) (.slice none 0 0)) (fun _ hk => hk.2) (.int .i64 (wrap64 (t358 + 1)))) (fun _ hk => ⟨hk.1.1.1.1, ⟨hk.1.1.1.2.1, ⟨hk.1.1.1.2.2, hk.1.1.2⟩⟩⟩)⟩
         have n1_ : Aside0 (Kd.R (Kd.int .u8) 5 (((((((w73.setCell ⟨gb379, 0, none⟩ (.int .i64 t358)).setCell ⟨gb379, 1, none⟩ (.int .i64 a2)).setCell ⟨gb379, 2, none⟩ (.int .i64 1)).setCell ⟨gb379, 3, none⟩ (.slice none 0 0)).setCell ⟨gb379, 4, none⟩ (.slice none 0 0)).setCell ⟨gb379, 5, none⟩ (.slice none 0 0)).setCell ⟨gb353, 1, none⟩ (.int .i64 (wrap64 (t358 + 1)))) w.heap.size (fun _ => True) (.slice Ao43 t366.length co43) t366) := ⟨by (with_reducible repeat (first | apply Kd.R_alloc | apply Kd.R_drewN | apply Kd.R_drew)); exact Kd.R_mono (Kd.R_far (p := ⟨gb353, 1, none⟩) (Kd.R_far (p := ⟨gb379, 5, none⟩) (Kd.R_far (p := ⟨gb379, 4, none⟩) (Kd.R_far (p := ⟨gb379, 3, none⟩) (Kd.R_far (p := ⟨gb379, 2, none⟩) (Kd.R_far (p := ⟨gb379, 1, none⟩) (Kd.R_far (p := ⟨gb379, 0, none⟩) (Kd.R_types (Kd.R_types HO_378003.out BK379.out (by decide)) BK353.out (by decide)) (fun _ hk => hk.1.2) (.int .i64 t358)) (fun _ hk => hk.1.2) (.int .i64 a2)) (fun _ hk => hk.1.2) (.int .i64 1)) (fun _ hk => hk.1.2) (.slice none 0 0)) (fun _ hk => hk.1.2) (.slice none 0 0)) (fun _ hk => hk.1.2) (.slice none 0 0)) (fun _ hk => hk.2) (.int .i64 (wrap64 (t358 + 1)))) (fun _ hk => trivial)⟩
         have n2_ : Aside0 (Kd.R k65 65 (((((((w73.setCell ⟨gb379, 0, none⟩ (.int .i64 t358)).setCell ⟨gb379, 1, none⟩ (.int .i64 a2)).setCell ⟨gb379, 2, none⟩ (.int .i64 1)).setCell ⟨gb379, 3, none⟩ (.slice none 0 0)).setCell ⟨gb379, 4, none⟩ (.slice none 0 0)).setCell ⟨gb379, 5, none⟩ (.slice none 0 0)).setCell ⟨gb353, 1, none⟩ (.int .i64 (wrap64 (t358 + 1)))) w.heap.size (fun _ => True) (.slice Ao44 t369.length co44) t369) := ⟨by (with_reducible repeat (first | apply Kd.R_alloc | apply Kd.R_drewN | apply Kd.R_drew)); exact Kd.R_mono (Kd.R_far (p := ⟨gb353, 1, none⟩) (Kd.R_far (p := ⟨gb379, 5, none⟩) (Kd.R_far (p := ⟨gb379, 4, none⟩) (Kd.R_far (p := ⟨gb379, 3, none⟩) (Kd.R_far (p := ⟨gb379, 2, none⟩) (Kd.R_far (p := ⟨gb379, 1, none⟩) (Kd.R_far (p := ⟨gb379, 0, none⟩) (Kd.R_types (Kd.R_types HO_378004.out BK379.out (by decide)) BK353.out (by decide)) (fun _ hk => hk.1.2) (.int .i64 t358)) (fun _ hk => hk.1.2) (.int .i64 a2)) (fun _ hk => hk.1.2) (.int .i64 1)) (fun _ hk => hk.1.2) (.slice none 0 0)) (fun _ hk => hk.1.2) (.slice none 0 0)) (fun _ hk => hk.1.2) (.slice none 0 0)) (fun _ hk => hk.2) (.int .i64 (wrap64 (t358 + 1)))) (fun _ hk => trivial)⟩
         have n3_ : Aside0 (Kd.R k71 71 (((((((w73.setCell ⟨gb379, 0, none⟩ (.int .i64 t358)).setCell ⟨gb379, 1, none⟩ (.int .i64 a2)).setCell ⟨gb379, 2, none⟩ (.int .i64 1)).setCell ⟨gb379, 3, none⟩ (.slice none 0 0)).setCell ⟨gb379, 4, none⟩ (.slice none 0 0)).setCell ⟨gb379, 5, none⟩ (.slice none 0 0)).setCell ⟨gb353, 1, none⟩ (.int .i64 (wrap64 (t358 + 1)))) w.heap.size (fun _ => True) (.slice Ao45 t372.length co45) t372) := ⟨by (with_reducible repeat (first | apply Kd.R_alloc | apply Kd.R_drewN | apply Kd.R_drew)); exact Kd.R_mono (Kd.R_far (p := ⟨gb353, 1, none⟩) (Kd.R_far (p := ⟨gb379, 5, none⟩) (Kd.R_far (p := ⟨gb379, 4, none⟩) (Kd.R_far (p := ⟨gb379, 3, none⟩) (Kd.R_far (p := ⟨gb379, 2, none⟩) (Kd.R_far (p := ⟨gb379, 1, none⟩) (Kd.R_far (p := ⟨gb379, 0, none⟩) (Kd.R_types (Kd.R_types HO_378005.out BK379.out (by decide)) BK353.out (by decide)) (fun _ hk => hk.1.2) (.int .i64 t358)) (fun _ hk => hk.1.2) (.int .i64 a2)) (fun _ hk => hk.1.2) (.int .i64 1)) (fun _ hk => hk.1.2) (.slice none 0 0)) (fun _ hk => hk.1.2) (.slice none 0 0)) (fun _ hk => hk.1.2) (.slice none 0 0)) (fun _ hk => hk.2) (.int .i64 (wrap64 (t358 + 1)))) (fun _ hk => trivial)⟩
         have n4_ : Aside0 ((((((((w73.setCell ⟨gb379, 0, none⟩ (.int .i64 t358)).setCell ⟨gb379, 1, none⟩ (.int .i64 a2)).setCell ⟨gb379, 2, none⟩ (.int .i64 1)).setCell ⟨gb379, 3, none⟩ (.slice none 0 0)).setCell ⟨gb379, 4, none⟩ (.slice none 0 0)).setCell ⟨gb379, 5, none⟩ (.slice none 0 0)).setCell ⟨gb353, 1, none⟩ (.int .i64 (wrap64 (t358 + 1)))).heap[gb353]? = some (.cells #[.slice Ao11 t355.length co11, .int .i64 (wrap64 (t358 + 1))] 26 (0, 0))) := ⟨oP BK353⟩
         have n5_ : Aside0 ((((((((w73.setCell ⟨gb379, 0, none⟩ (.int .i64 t358)).setCell ⟨gb379, 1, none⟩ (.int .i64 a2)).setCell ⟨gb379, 2, none⟩ (.int .i64 1)).setCell ⟨gb379, 3, none⟩ (.slice none 0 0)).setCell ⟨gb379, 4, none⟩ (.slice none 0 0)).setCell ⟨gb379, 5, none⟩ (.slice none 0 0)).setCell ⟨gb353, 1, none⟩ (.int .i64 (wrap64 (t358 + 1)))).heap[gb354]? = some (.cells #[.slice none 0 0, .int .i64 0] 26 (0, 0))) := ⟨oF BK354⟩
         have n6_ : Aside0 ((((((((w73.setCell ⟨gb379, 0, none⟩ (.int .i64 t358)).setCell ⟨gb379, 1, none⟩ (.int .i64 a2)).setCell ⟨gb379, 2, none⟩ (.int .i64 1)).setCell ⟨gb379, 3, none⟩ (.slice none 0 0)).setCell ⟨gb379, 4, none⟩ (.slice none 0 0)).setCell ⟨gb379, 5, none⟩ (.slice none 0 0)).setCell ⟨gb353, 1, none⟩ (.int .i64 (wrap64 (t358 + 1)))).heap[gb377]? = some (.cells #[.int .i64 t363, .int .i64 t364, .int .i64 t365, .slice Ao43 t366.length co43, .slice Ao44 t369.length co44, .slice Ao45 t372.length co45, .string t375] 84 (0, 0))) := ⟨oF BK377⟩
         have n7_ : Aside0 ((((((((w73.setCell ⟨gb379, 0, none⟩ (.int .i64 t358)).setCell ⟨gb379, 1, none⟩ (.int .i64 a2)).setCell ⟨gb379, 2, none⟩ (.int .i64 1)).setCell ⟨gb379, 3, none⟩ (.slice none 0 0)).setCell ⟨gb379, 4, none⟩ (.slice none 0 0)).setCell ⟨gb379, 5, none⟩ (.slice none 0 0)).setCell ⟨gb353, 1, none⟩ (.int .i64 (wrap64 (t358 + 1)))).heap[gb379]? = some (.cells #[.int .i64 t358, .int .i64 a2, .int .i64 1, .slice none 0 0, .slice none 0 0, .slice none 0 0] 51 (0, 0))) := ⟨oP BK379⟩
         have n8_ : Aside0 (Below w.heap.size w (((((((w73.setCell ⟨gb379, 0, none⟩ (.int .i64 t358)).setCell ⟨gb379, 1, none⟩ (.int .i64 a2)).setCell ⟨gb379, 2, none⟩ (.int .i64 1)).setCell ⟨gb379, 3, none⟩ (.slice none 0 0)).setCell ⟨gb379, 4, none⟩ (.slice none 0 0)).setCell ⟨gb379, 5, none⟩ (.slice none 0 0)).setCell ⟨gb353, 1, none⟩ (.int .i64 (wrap64 (t358 + 1))))) := ⟨oB⟩
         (try clear HO_354000)
         (try clear HO_378003)
         (try clear HO_378004)
         (try clear HO_378005)
         (try clear BK353)
         (try clear BK354)
         (try clear BK377)
         (try clear BK379)
         (try clear HB)
         generalize (((((((w73.setCell ⟨gb379, 0, none⟩ (.int .i64 t358)).setCell ⟨gb379, 1, none⟩ (.int .i64 a2)).setCell ⟨gb379, 2, none⟩ (.int .i64 1)).setCell ⟨gb379, 3, none⟩ (.slice none 0 0)).setCell ⟨gb379, 4, none⟩ (.slice none 0 0)).setCell ⟨gb379, 5, none⟩ (.slice none 0 0)).setCell ⟨gb353, 1, none⟩ (.int .i64 (wrap64 (t358 + 1)))) = w79 at n0_ n1_ n2_ n3_ n4_ n5_ n6_ n7_ n8_ ⊢
         have HO_354000 := n0_
         have HO_378003 := n1_
         have HO_378004 := n2_
         have HO_378005 := n3_
         have BK353 := n4_
         have BK354 := n5_
         have BK377 := n6_
         have BK379 := n7_
         have HB := n8_
         clear n0_ n1_ n2_ n3_ n4_ n5_ n6_ n7_ n8_
         replace HO_354000 := Aside0.mk (Kd.S_drew HO_354000.out)
         replace HO_378003 := Aside0.mk (Kd.R_drew HO_378003.out)
         replace HO_378004 := Aside0.mk (Kd.R_drew HO_378004.out)
         replace HO_378005 := Aside0.mk (Kd.R_drew HO_378005.out)
         replace BK353 := Aside0.mk (blk_drew BK353.out)
         replace BK354 := Aside0.mk (blk_drew BK354.out)
         replace BK377 := Aside0.mk (blk_drew BK377.out)
         replace BK379 := Aside0.mk (blk_drew BK379.out)
         replace HB := Aside0.mk (below_drew1 HB.out)
         refine st_ 9 (fun w' => w'.cell? ⟨gb377, 0, none⟩ = some (.int .i64 t363) ∧ w'.cell? ⟨gb377, 1, none⟩ = some (.int .i64 t364) ∧ w'.cell? ⟨gb377, 2, none⟩ = some (.int .i64 t365) ∧ w'.cell? ⟨gb377, 3, none⟩ = some (.slice Ao43 t366.length co43) ∧ w'.cell? ⟨gb377, 4, none⟩ = some (.slice Ao44 t369.length co44) ∧ w'.cell? ⟨gb377, 5, none⟩ = some (.slice Ao45 t372.length co45) ∧ w'.cell? ⟨gb377, 6, none⟩ = some (.string t375) ∧ w'.cell? ⟨gb353, 0, none⟩ = some (.slice Ao11 t355.length co11) ∧ w'.cell? ⟨gb353, 1, none⟩ = some (.int .i64 (wrap64 (t358 + 1))) ∧ w'.cell? ⟨gb379, 0, none⟩ = some (.int .i64 t358) ∧ w'.cell? ⟨gb379, 1, none⟩ = some (.int .i64 a2) ∧ w'.cell? ⟨gb379, 2, none⟩ = some (.int .i64 1) ∧ w'.cell? ⟨gb379, 3, none⟩ = some (.slice none 0 0) ∧ w'.cell? ⟨gb379, 4, none⟩ = some (.slice none 0 0) ∧ w'.cell? ⟨gb379, 5, none⟩ = some (.slice none 0 0)) impl_makeAt.tab13 impl_makeAt.bits13 oH (fun hHeld HT_ HW_ => ?_)
         generalize w79.drew = w80 at HO_354000 HO_378003 HO_378004 HO_378005 BK353 BK354 BK377 BK379 HB hHeld ⊢
         refine pu_ 2 70 HT_ ?_
         refine ta_ 0 68 HT_ HW_ hHeld ?_
         refine ta_ 1 69 HT_ HW_ hHeld ?_
         refine ta_ 3 71 HT_ HW_ hHeld ?_
         refine ta_ 5 73 HT_ HW_ hHeld ?_
         refine on_ 4 72 HT_ (fun K hK => ?_)
         refine gr_ 72 Tryz.func59 (impl_spot_enter.calls kj34 t363 t364 t365 _ _ t366 _ _ t369 _ _ t372 t375 _ _ t355 (wrap64 (t358 + 1)) t358 t380 t383 _ (kO HO_378003) (ko HO_378003) (kO HO_378004) (ko HO_378004) (kO HO_378005) (ko HO_378005) (rcS0 HO_354000) (rnS HO_354000) A68.out) ?_
         rintro e w81 ⟨v381, rfl, ho0, hb⟩
         refine ⟨_, rfl, ?_⟩
         have HO382 := Aside0.mk (Kd.S_lower (Kd.S_newB (Kd.S_new' (Kd.S_new' (Kd.S_new' (Kd.S_new' ho0 (ltS0 HO_354000)) (kl_ HO_378003)) (kl_ HO_378004)) (kl_ HO_378005)) (g := gb379) (o := .cells #[.int .i64 t358, .int .i64 a2, .int .i64 1, .slice none 0 0, .slice none 0 0, .slice none 0 0] 51 (0, 0)) (oF BK379)) (below_size oB))
         replace HO_354000 := elS0 HO_354000 (Kd.S_base ho0) hb
         replace HO_378003 := kr_ HO_378003 hb
         replace HO_378004 := kr_ HO_378004 hb
         replace HO_378005 := kr_ HO_378005 hb
         replace BK353 := kb_ BK353 hb
         replace BK354 := kb_ BK354 hb
         replace BK377 := kb_ BK377 hb
         replace BK379 := kb_ BK379 hb
         replace HB := Aside0.mk (below_step oB hb)
         obtain ⟨Ao82, co82, eo82⟩ := Kd.S_slice HO382.out
         (first | subst eo82 | (injection eo82 with f1_ f2_ f3_; have f4_ := f1_.symm; have f5_ := f3_.symm; clear f1_ f2_ f3_; subst f4_; subst f5_))
         refine hk_ hK 72 oH (fun hHeld => ?_)
         clear hK K
         refine on_ 6 74 HT_ (fun K hK => ?_)
         refine goes_ Tryz.func50 (by kernel_rfl) rfl #[.agg #[.slice Ao82 t380.length co82, .int .i64 t383], .agg #[.int .i64 t358, .int .i64 a2, .int .i64 1, .slice none 0 0, .slice none 0 0, .slice none 0 0]] (by rfl) rfl rfl oL ?_
         refine (impl_SetInode.calls kj34 _ _ t380 t383 t358 a2 1 _ _ ([] : List Int) _ _ ([] : List (S65)) _ _ ([] : List (S71)) t384 t387 _ (rcS0 HO382) (rnS HO382) ?side3 ?side4 ?side5 ?side6 ?side7 ?side8 A69.out).mono ?_
         (case side3 => exact Kd.C_nil _ _)
         (case side4 => exact Nat.le_refl _)
         (case side5 => exact Kd.C_nil _ _)
         (case side6 => exact Nat.le_refl _)
         (case side7 => exact Kd.C_nil _ _)
         (case side8 => exact Nat.le_refl _)
         rintro e w83 ⟨v385, rfl, ho0, hb⟩
         refine ⟨_, rfl, ?_⟩
         have HO386 := Aside0.mk (Kd.S_lower (Kd.S_newB (Kd.S_new' (Kd.S_new' (Kd.S_new' (Kd.S_new' (Kd.S_new' ho0 (ltS0 HO_354000)) (kl_ HO_378003)) (kl_ HO_378004)) (kl_ HO_378005)) (ltS0 HO382)) (g := gb379) (o := .cells #[.int .i64 t358, .int .i64 a2, .int .i64 1, .slice none 0 0, .slice none 0 0, .slice none 0 0] 51 (0, 0)) (oF BK379)) (below_size oB))
         replace HO_354000 := elS0 HO_354000 (Kd.S_base ho0) hb
         replace HO_378003 := kr_ HO_378003 hb
         replace HO_378004 := kr_ HO_378004 hb
         replace HO_378005 := kr_ HO_378005 hb
         replace HO382 := elS0 HO382 (Kd.S_base ho0) hb
         replace BK353 := kb_ BK353 hb
         replace BK354 := kb_ BK354 hb
         replace BK377 := kb_ BK377 hb
         replace BK379 := kb_ BK379 hb
         replace HB := Aside0.mk (below_step oB hb)
         obtain ⟨Ao84, co84, eo84⟩ := Kd.S_slice HO386.out
         (first | subst eo84 | (injection eo84 with f1_ f2_ f3_; have f4_ := f1_.symm; have f5_ := f3_.symm; clear f1_ f2_ f3_; subst f4_; subst f5_))
         refine hk_ hK 74 oH (fun hHeld => ?_)
         clear hK K
         refine one_ (i := 7) (N := none) (lb 9 255) rfl rfl (one_of HT_.out (by kernel_rfl)) (by decide) (fun K hK => ?_)
         have hs85 : w83.cell? ⟨gb354, 0, none⟩ = some (.slice none 0 0) := (blk_cell BK354.out 0).trans rfl
         have hfs85 := blk_frozen BK354.out 0
         have hns85_0 := NB353_354.out
         have hns85_2 := NB377_354.out
         have hns85_3 := NB379_354.out
         have hms85_0 := NB354_353.out
         have hms85_2 := NB354_377.out
         have hms85_3 := NB354_379.out
         have hs86 : w83.cell? ⟨gb354, 1, none⟩ = some (.int .i64 0) := (blk_cell BK354.out 1).trans rfl
         have hfs86 := blk_frozen BK354.out 1
         have hns86_0 := NB353_354.out
         have hns86_2 := NB377_354.out
         have hns86_3 := NB379_354.out
         have hms86_0 := NB354_353.out
         have hms86_2 := NB354_377.out
         have hms86_3 := NB354_379.out
         refine skip_ (w1 := ?_) (by rfl) rfl ?_ ?_
         rotate_left
         ·go_simp
          rfl
         refine hK.out _ _ ⟨((cell_far (p := ⟨gb354, _, none⟩) NB377_354.out _).trans (((cell_far (p := ⟨gb354, _, none⟩) NB377_354.out _).trans (hHeld.1)))), ((cell_far (p := ⟨gb354, _, none⟩) NB377_354.out _).trans (((cell_far (p := ⟨gb354, _, none⟩) NB377_354.out _).trans (hHeld.2.1)))), ((cell_far (p := ⟨gb354, _, none⟩) NB377_354.out _).trans (((cell_far (p := ⟨gb354, _, none⟩) NB377_354.out _).trans (hHeld.2.2.1)))), ((cell_far (p := ⟨gb354, _, none⟩) NB377_354.out _).trans (((cell_far (p := ⟨gb354, _, none⟩) NB377_354.out _).trans (hHeld.2.2.2.1)))), ((cell_far (p := ⟨gb354, _, none⟩) NB377_354.out _).trans (((cell_far (p := ⟨gb354, _, none⟩) NB377_354.out _).trans (hHeld.2.2.2.2.1)))), ((cell_far (p := ⟨gb354, _, none⟩) NB377_354.out _).trans (((cell_far (p := ⟨gb354, _, none⟩) NB377_354.out _).trans (hHeld.2.2.2.2.2.1)))), ((cell_far (p := ⟨gb354, _, none⟩) NB377_354.out _).trans (((cell_far (p := ⟨gb354, _, none⟩) NB377_354.out _).trans (hHeld.2.2.2.2.2.2.1)))), ((cell_far (p := ⟨gb354, _, none⟩) NB353_354.out _).trans (((cell_far (p := ⟨gb354, _, none⟩) NB353_354.out _).trans (hHeld.2.2.2.2.2.2.2.1)))), ((cell_far (p := ⟨gb354, _, none⟩) NB353_354.out _).trans (((cell_far (p := ⟨gb354, _, none⟩) NB353_354.out _).trans (hHeld.2.2.2.2.2.2.2.2.1)))), ((cell_far (p := ⟨gb354, _, none⟩) NB379_354.out _).trans (((cell_far (p := ⟨gb354, _, none⟩) NB379_354.out _).trans (hHeld.2.2.2.2.2.2.2.2.2.1)))), ((cell_far (p := ⟨gb354, _, none⟩) NB379_354.out _).trans (((cell_far (p := ⟨gb354, _, none⟩) NB379_354.out _).trans (hHeld.2.2.2.2.2.2.2.2.2.2.1)))), ((cell_far (p := ⟨gb354, _, none⟩) NB379_354.out _).trans (((cell_far (p := ⟨gb354, _, none⟩) NB379_354.out _).trans (hHeld.2.2.2.2.2.2.2.2.2.2.2.1)))), ((cell_far (p := ⟨gb354, _, none⟩) NB379_354.out _).trans (((cell_far (p := ⟨gb354, _, none⟩) NB379_354.out _).trans (hHeld.2.2.2.2.2.2.2.2.2.2.2.2.1)))), ((cell_far (p := ⟨gb354, _, none⟩) NB379_354.out _).trans (((cell_far (p := ⟨gb354, _, none⟩) NB379_354.out _).trans (hHeld.2.2.2.2.2.2.2.2.2.2.2.2.2.1)))), ((cell_far (p := ⟨gb354, _, none⟩) NB379_354.out _).trans (((cell_far (p := ⟨gb354, _, none⟩) NB379_354.out _).trans (hHeld.2.2.2.2.2.2.2.2.2.2.2.2.2.2))))⟩ (fun hHeld => ?_)
         clear hK K
         refine pu_ 8 7 HT_ ?_
         refine dn_ HT_ ?_
         try go_wp2
         refine bodyPost_ret (results_ct rfl _ _ gb354 26 #[.slice Ao84 t384.length co84, .int .i64 t387] (0, 0) _ rfl (oP BK354) Tryz.underlying26 rfl (by kernel_rfl)) rfl ?_
         exact ⟨_, oE, by (with_reducible repeat (first | apply Kd.S_alloc | apply Kd.S_drewN | apply Kd.S_drew)); exact Kd.S_mono (Kd.S_far (p := ⟨gb354, 1, none⟩) (Kd.S_far (p := ⟨gb354, 0, none⟩) (Kd.S_types HO386.out BK354.out (by decide)) (fun _ hk => hk.2) (.slice Ao84 t384.length co84)) (fun _ hk => hk.2) (.int .i64 t387)) (fun _ hk => trivial), oB⟩
     ·rw [if_neg c34] at H
      have c34b0 : (t378 == 0) = false := beq_eq_false_iff_ne.mpr c34
      have c34b1 : (t378 != 0) = true := bne_iff_ne.mpr c34
      simp only [Option.some.injEq, Prod.mk.injEq] at H
      obtain ⟨rfl, rfl, rfl⟩ := H
      have hnb87 := NB353_354.out
      have hnc87 := NB354_353.out
      obtain ⟨⟨_, _⟩, _, _⟩ := z2 BK353
      go_wp2_with (first | ((with_reducible refine gate_callee (f := 57) rfl ?_); refine gl_ 26 Tryz.func57 (impl_spotOf.calls kj4 _ _ t355 t358 a1 t363 t364 t365 t366 t369 t372 t375 t376 _ (rcS0 HO_354000) (rnS HO_354000) A31.out) ?_; rintro e w89 ⟨v367, v370, v373, rfl, ho0, ho1, ho2, hb⟩; refine ⟨_, rfl, ?_⟩; have HO368 := Aside0.mk (Kd.R_lower ho0 (below_size oB)); have HO371 := Aside0.mk (Kd.R_lower ho1 (below_size oB)); have HO374 := Aside0.mk (Kd.R_lower ho2 (below_size oB)); replace HO_354000 := tdS3 (olS0 HO_354000 hb) (Kd.R_base ho0) (Kd.R_base ho1) (Kd.R_base ho2); replace BK353 := kb_ BK353 hb; replace BK354 := kb_ BK354 hb; replace HB := Aside0.mk (below_step oB hb); (try clear ho1); (try clear ho2)) | ((with_reducible refine gate_dst (N := 8) rfl ?_); (try (refine gate_guard (by rfl) ?_; dsimp only)); refine bx_ 8 #[.int .i64 0, .int .i64 0, .int .i64 0, .slice none 0 0, .slice none 0 0, .slice none 0 0, .string (⟨#[]⟩ : ByteArray)] 84 ?_; intro gb377 hg w90 hbox hb; have BK377 := Aside0.mk (hbox); have GW377 := gs_ hg; have NB353_377 := nl_ hg BK353; have NB377_353 := nr_ hg BK353; have NB354_377 := nl_ hg BK354; have NB377_354 := nr_ hg BK354; replace HO_354000 := beS0 HO_354000 hb; replace HO368 := kr_ HO368 hb; replace HO371 := kr_ HO371 hb; replace HO374 := kr_ HO374 hb; replace BK353 := kb_ BK353 hb; replace BK354 := kb_ BK354 hb; replace HB := Aside0.mk (below_step oB hb); clear hb hbox hg; have hnb91 := NB377_353.out; have hnc91 := NB353_377.out; have hnb92 := NB377_354.out; have hnc92 := NB354_377.out; obtain ⟨⟨_, _, _, _, _, _, _⟩, _, _, _, _, _, _, _⟩ := z7 BK377; obtain ⟨Ao94, co94, eo94⟩ := Kd.R_slice HO368.out; subst eo94; obtain ⟨Ao95, co95, eo95⟩ := Kd.R_slice HO371.out; subst eo95; obtain ⟨Ao96, co96, eo96⟩ := Kd.R_slice HO374.out; subst eo96) | ((with_reducible refine gate_callee (f := 58) rfl ?_); refine gl_ 39 Tryz.func58 (impl_EntOf.calls kj4 t363 t364 t365 _ _ t366 _ _ t369 _ _ t372 t375 t378 _ (rcR1 HO368 BK377) (ko HO368) (rcR1 HO371 BK377) (ko HO371) (rcR1 HO374 BK377) (ko HO374) A33.out) ?_; rintro e w97 ⟨rfl, hb⟩; refine ⟨_, rfl, ?_⟩; replace HO_354000 := beS1 HO_354000 BK377 hb; replace HO368 := beR1 HO368 BK377 hb; replace HO371 := beR1 HO371 BK377 hb; replace HO374 := beR1 HO374 BK377 hb; replace BK353 := kb_ BK353 hb; replace BK354 := kb_ BK354 hb; replace BK377 := kp_ #[.int .i64 t363, .int .i64 t364, .int .i64 t365, .slice Ao94 t366.length co94, .slice Ao95 t369.length co95, .slice Ao96 t372.length co96, .string t375] BK377 hb; replace HB := Aside0.mk (below_step oB hb); (try clear hk); obtain ⟨⟨_, _⟩, _, _⟩ := z2 BK353; obtain ⟨⟨_, _⟩, _, _⟩ := z2 BK354))
      refine bodyPost_ret (results_ct rfl _ _ gb354 26 #[.slice Ao11 t355.length co11, .int .i64 t358] (0, 0) _ rfl (oP BK354) Tryz.underlying26 rfl (by kernel_rfl)) rfl ?_
      exact ⟨_, oE, by (with_reducible repeat (first | apply Kd.S_alloc | apply Kd.S_drewN | apply Kd.S_drew)); exact Kd.S_mono (Kd.S_far (p := ⟨gb354, 1, none⟩) (Kd.S_far (p := ⟨gb354, 0, none⟩) (Kd.S_types HO_354000.out BK354.out (by decide)) (fun _ hk => hk.2) (.slice Ao11 t355.length co11)) (fun _ hk => hk.2) (.int .i64 t358)) (fun _ hk => trivial), oB⟩
    ·rw [if_neg c32] at H
     have c32b0 : (t376 == 0) = false := beq_eq_false_iff_ne.mpr c32
     have c32b1 : (t376 != 0) = true := bne_iff_ne.mpr c32
     simp only [Option.some.injEq, Prod.mk.injEq] at H
     obtain ⟨rfl, rfl, rfl⟩ := H
     have hnb100 := NB353_354.out
     have hnc100 := NB354_353.out
     obtain ⟨⟨_, _⟩, _, _⟩ := z2 BK353
     go_wp2_with (first | ((with_reducible refine gate_callee (f := 57) rfl ?_); refine gl_ 26 Tryz.func57 (impl_spotOf.calls kj4 _ _ t355 t358 a1 t363 t364 t365 t366 t369 t372 t375 t376 _ (rcS0 HO_354000) (rnS HO_354000) A31.out) ?_; rintro e w102 ⟨v367, v370, v373, rfl, ho0, ho1, ho2, hb⟩; refine ⟨_, rfl, ?_⟩; have HO368 := Aside0.mk (Kd.R_lower ho0 (below_size oB)); have HO371 := Aside0.mk (Kd.R_lower ho1 (below_size oB)); have HO374 := Aside0.mk (Kd.R_lower ho2 (below_size oB)); replace HO_354000 := tdS3 (olS0 HO_354000 hb) (Kd.R_base ho0) (Kd.R_base ho1) (Kd.R_base ho2); replace BK353 := kb_ BK353 hb; replace BK354 := kb_ BK354 hb; replace HB := Aside0.mk (below_step oB hb); (try clear ho1); (try clear ho2)) | ((with_reducible refine gate_dst (N := 8) rfl ?_); (try (refine gate_guard (by rfl) ?_; dsimp only)); refine bx_ 8 #[.int .i64 0, .int .i64 0, .int .i64 0, .slice none 0 0, .slice none 0 0, .slice none 0 0, .string (⟨#[]⟩ : ByteArray)] 84 ?_; intro gb377 hg w103 hbox hb; have BK377 := Aside0.mk (hbox); have GW377 := gs_ hg; have NB353_377 := nl_ hg BK353; have NB377_353 := nr_ hg BK353; have NB354_377 := nl_ hg BK354; have NB377_354 := nr_ hg BK354; replace HO_354000 := beS0 HO_354000 hb; replace HO368 := kr_ HO368 hb; replace HO371 := kr_ HO371 hb; replace HO374 := kr_ HO374 hb; replace BK353 := kb_ BK353 hb; replace BK354 := kb_ BK354 hb; replace HB := Aside0.mk (below_step oB hb); clear hb hbox hg; have hnb104 := NB377_353.out; have hnc104 := NB353_377.out; have hnb105 := NB377_354.out; have hnc105 := NB354_377.out; obtain ⟨⟨_, _, _, _, _, _, _⟩, _, _, _, _, _, _, _⟩ := z7 BK377; obtain ⟨Ao107, co107, eo107⟩ := Kd.R_slice HO368.out; subst eo107; obtain ⟨Ao108, co108, eo108⟩ := Kd.R_slice HO371.out; subst eo108; obtain ⟨Ao109, co109, eo109⟩ := Kd.R_slice HO374.out; subst eo109; obtain ⟨⟨_, _⟩, _, _⟩ := z2 BK353; obtain ⟨⟨_, _⟩, _, _⟩ := z2 BK354))
     refine bodyPost_ret (results_ct rfl _ _ gb354 26 #[.slice Ao11 t355.length co11, .int .i64 t358] (0, 0) _ rfl (oP BK354) Tryz.underlying26 rfl (by kernel_rfl)) rfl ?_
     exact ⟨_, oE, by (with_reducible repeat (first | apply Kd.S_alloc | apply Kd.S_drewN | apply Kd.S_drew)); exact Kd.S_mono (Kd.S_far (p := ⟨gb354, 1, none⟩) (Kd.S_far (p := ⟨gb354, 0, none⟩) (Kd.S_far (p := ⟨gb377, 6, none⟩) (Kd.S_far (p := ⟨gb377, 5, none⟩) (Kd.S_far (p := ⟨gb377, 4, none⟩) (Kd.S_far (p := ⟨gb377, 3, none⟩) (Kd.S_far (p := ⟨gb377, 2, none⟩) (Kd.S_far (p := ⟨gb377, 1, none⟩) (Kd.S_far (p := ⟨gb377, 0, none⟩) (Kd.S_types (Kd.S_types HO_354000.out BK377.out (by decide)) BK354.out (by decide)) (fun _ hk => hk.1.2) (.int .i64 t363)) (fun _ hk => hk.1.2) (.int .i64 t364)) (fun _ hk => hk.1.2) (.int .i64 t365)) (fun _ hk => hk.1.2) (.slice Ao107 t366.length co107)) (fun _ hk => hk.1.2) (.slice Ao108 t369.length co108)) (fun _ hk => hk.1.2) (.slice Ao109 t372.length co109)) (fun _ hk => hk.1.2) (.string t375)) (fun _ hk => hk.2) (.slice Ao11 t355.length co11)) (fun _ hk => hk.2) (.int .i64 t358)) (fun _ hk => trivial), oB⟩

end Go.Proofs.YtkcfmbggdkkfeaaGreatDoor.P
