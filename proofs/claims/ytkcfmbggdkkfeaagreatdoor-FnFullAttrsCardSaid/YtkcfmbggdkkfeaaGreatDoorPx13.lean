-- By this session's own program (wip/myprint.py) out of the translation; Lean checks it.
import Derived.Test.YtkcfmbggdkkfeaaGreatDoorPx0
import Derived.Test.YtkcfmbggdkkfeaaGreatDoorPx2
import Derived.Test.YtkcfmbggdkkfeaaGreatDoorPx3
import Derived.Test.YtkcfmbggdkkfeaaGreatDoorPx6
import Derived.Test.YtkcfmbggdkkfeaaGreatDoorPx8
import Derived.Test.YtkcfmbggdkkfeaaGreatDoorPx11
namespace Go.Proofs.YtkcfmbggdkkfeaaGreatDoor.P
open Go.RowKit Go.Proofs.YtkcfmbggdkkfeaaGreatDoorW.PrintWords Go.Proofs.YtkcfmbggdkkfeaaGreatDoorW.PrintLast Go.Proofs.YtkcfmbggdkkfeaaGreatDoorW.PrintMore
attribute [local go_sem] max2_int min2_int max_two min_two max_three min_three max_four min_four   -- for this text's walks alone
set_option linter.unusedVariables false
set_option linter.unusedSimpArgs false

/-! ### impl_makeAt: function 35 -/
mutual
def impl_makeAt.j0 : Nat → ByteArray → Int → Bool → List (S51) → Int → Option ((List (S51)) × Int × Int)
 | 0, _, _, _, _, _ => none
 | k + 1, x1, x2, x21, x360000, x360001 => if x21 = true then (some (x360000, x360001, 1)) else ((impl_spotOf.f k x360000 x360001 x1).bind fun bt369 => (if bt369.2.2.2.2.2.2.2 = 0 then ((impl_EntOf.f k bt369.1 bt369.2.1 bt369.2.2.1 bt369.2.2.2.1 bt369.2.2.2.2.1 bt369.2.2.2.2.2.1 bt369.2.2.2.2.2.2.1).bind fun t384 => (if t384 = 0 then (if (bt369.2.2.2.2.1.length : Int) = 10 then (impl_makeAt.j1 k x2 true x360000 x360001 bt369.1 bt369.2.1 bt369.2.2.1 bt369.2.2.2.1 bt369.2.2.2.2.1 bt369.2.2.2.2.2.1 bt369.2.2.2.2.2.2.1) else (if (x360000.length : Int) = 30 then (impl_makeAt.j1 k x2 true x360000 x360001 bt369.1 bt369.2.1 bt369.2.2.1 bt369.2.2.2.1 bt369.2.2.2.2.1 bt369.2.2.2.2.2.1 bt369.2.2.2.2.2.2.1) else (impl_makeAt.j1 k x2 (x360001 == 1000) x360000 x360001 bt369.1 bt369.2.1 bt369.2.2.1 bt369.2.2.2.1 bt369.2.2.2.2.1 bt369.2.2.2.2.2.1 bt369.2.2.2.2.2.2.1))) else (some (x360000, x360001, 4)))) else (some (x360000, x360001, bt369.2.2.2.2.2.2.2))))
def impl_makeAt.j1 : Nat → Int → Bool → List (S51) → Int → Int → Int → Int → List Int → List (S65) → List (S71) → ByteArray → Option ((List (S51)) × Int × Int)
 | 0, _, _, _, _, _, _, _, _, _, _, _ => none
 | k + 1, x2, x42, x360000, x360001, x384000, x384001, x384002, x384003, x384004, x384005, x384006 => if x42 = true then (some (x360000, x360001, 5)) else ((impl_spot_enter.f k x384000 x384001 x384002 x384003 x384004 x384005 x384006 x360000 (wrap64 (x360001 + 1)) x360001).bind fun bt386 => ((impl_SetInode.f k bt386.1 bt386.2 x360001 x2 1 ([] : List Int) ([] : List (S65)) ([] : List (S71))).bind fun bt390 => (some (bt390.1, bt390.2, 0))))
end
def impl_makeAt.f (k : Nat) (l0_0 : List (S51)) (a0_1 : Int) (a1 : ByteArray) (a2 : Int) : Option ((List (S51)) × Int × Int) := (impl_copyTab.f k l0_0 a0_1).bind fun bt361 => ((impl_ready.f k bt361.1 bt361.2 (([a1] : List ByteArray))).bind fun t368 => (if t368 = true then (impl_makeAt.j0 k a1 a2 (a1.toList == ([47] : List UInt8)) bt361.1 bt361.2) else (impl_makeAt.j0 k a1 a2 true bt361.1 bt361.2)))
def impl_makeAt.T13 : Bool × List (List Nat × List Nat) := (true, [([], []), ([], []), ([], []), ([2], [2]), ([0, 1, 3], [0, 1, 3]), ([], []), ([4, 5, 4], [4, 5]), ([6, 6, 0, 1, 2, 3, 4, 5, 6], [6]), ([7, 0, 1, 2, 3, 4, 5, 6, 7], [])])
def impl_makeAt.B13 : List Nat := [0, 0, 0, 4, 15, 0, 63, 127, 255]
theorem impl_makeAt.tab13 : rtab .any (opsOf Tryz.f35 13) = impl_makeAt.T13 := by kernel_rfl
theorem impl_makeAt.bits13 : waitsOk impl_makeAt.T13.2 impl_makeAt.B13 = true := by kernel_rfl
set_option maxHeartbeats 8000000 in
set_option maxRecDepth 100000 in
theorem impl_makeAt.calls (k : Nat) (A0_0 : Option Addr) (c0_0 : Nat) (l0_0 : List (S51)) (a0_1 : Int) (a1 : ByteArray) (a2 : Int) (r1 : List (S51)) (r2 : Int) (r3 : Int) (w : World) (hr0_0 : Kd.C k51 w A0_0 l0_0.length l0_0) (hc0_0 : l0_0.length ≤ c0_0) (h : impl_makeAt.f k l0_0 a0_1 a1 a2 = some (r1, r2, r3)) (hG : GOk w := by exact gk_ oB (by first | (with_reducible assumption) | assumption)) :
  Calls Tryz.prog 35 #[.agg #[.slice A0_0 l0_0.length c0_0, .int .i64 a0_1], .string a1, .int .i64 a2] w fun e w' => ∃ v0_ : Value, e = .returned (.tuple #[.agg #[v0_, .int .i64 r2], .int .i64 r3]) ∧ Kd.S k51 51 w' w.heap.size (fun _ => True) v0_ r1 ∧ Below w.heap.size w w' := by
 have HG := Aside0.mk hG
 clear hG
 have hu26 := Tryz.underlying26
 have hu84 := Tryz.underlying84
 have hu51 := Tryz.underlying51
 have HR0_0 := Aside0.mk hr0_0
 have HC0_0 := Aside0.mk hc0_0
 clear hr0_0 hc0_0
 have HB := Aside0.mk (Below.refl w.heap.size w)
 unfold impl_makeAt.f at h
 have H := h
 clear h
 replace H := bA H
 obtain ⟨⟨t361, t364⟩, A4, H⟩ := H
 try dsimp only at H
 have HC5 := Aside0.mk H
 clear H
 go_enter Tryz.func35, Tryz.ntmps35
 go_upto_region 2 with (first | ((with_reducible refine gate_dst (N := 3) rfl ?_); (try (refine gate_guard (by rfl) ?_; dsimp only)); refine bx_ 3 #[.slice A0_0 l0_0.length c0_0, .int .i64 a0_1] 26 ?_; intro gb359 hg w6 hbox hb; have BK359 := Aside0.mk (hbox); have GW359 := gs_ hg; replace HB := Aside0.mk (below_step oB hb); clear hb hbox hg) | ((with_reducible refine gate_dst (N := 6) rfl ?_); (try (refine gate_guard (by rfl) ?_; dsimp only)); refine bx_ 6 #[.slice none 0 0, .int .i64 0] 26 ?_; intro gb360 hg w7 hbox hb; have BK360 := Aside0.mk (hbox); have GW360 := gs_ hg; have NB359_360 := nl_ hg BK359; have NB360_359 := nr_ hg BK359; replace BK359 := kb_ BK359 hb; replace HB := Aside0.mk (below_step oB hb); clear hb hbox hg; have hnb8 := NB359_360.out; have hnc8 := NB360_359.out; obtain ⟨⟨_, _⟩, _, _⟩ := z2 BK359) | ((with_reducible refine gate_callee (f := 45) rfl ?_); refine gl_ 12 Tryz.func45 (impl_copyTab.calls k _ _ l0_0 a0_1 t361 t364 _ (kC HR0_0) HC0_0.out A4.out) ?_; rintro e w10 ⟨v362, rfl, ho0, hb⟩; refine ⟨_, rfl, ?_⟩; have HO363 := Aside0.mk (Kd.S_lower ho0 (below_size oB)); replace BK359 := kb_ BK359 hb; replace BK360 := kb_ BK360 hb; replace HB := Aside0.mk (below_step oB hb); obtain ⟨Ao11, co11, eo11⟩ := Kd.S_slice HO363.out; subst eo11; obtain ⟨⟨_, _⟩, _, _⟩ := z2 BK359))
 (try simp only [Act.put, List.setIfInBounds_toArray, List.set_cons_zero, List.set_cons_succ])
 go_cut [21] (fun v21 wc => ∃ (kq : Nat) (x21_4 : Bool), v21 = .bool x21_4 ∧ Aside0 (impl_makeAt.j0 kq a1 a2 x21_4 t361 t364 = some (r1, r2, r3)) ∧ Aside0 (kq ≤ k) ∧ Aside0 (Kd.S k51 51 wc w.heap.size (fun _ => True) (.slice Ao11 t361.length co11) t361) ∧ Aside0 (wc.heap[gb359]? = some (.cells #[(.slice Ao11 t361.length co11), .int .i64 t364] 26 (0, 0))) ∧ Aside0 (wc.heap[gb360]? = some (.cells #[(.slice none 0 0), .int .i64 0] 26 (0, 0))) ∧ Aside0 (Below w.heap.size w wc))
 case first =>
  have H := HC5.out
  clear HC5
  obtain ⟨y365, hy365⟩ : ∃ y_ : List ByteArray, y_ = (([a1] : List ByteArray)) := ⟨_, rfl⟩
  replace H : ((impl_ready.f k t361 t364 y365).bind fun t368 => (if t368 = true then (impl_makeAt.j0 k a1 a2 (a1.toList == ([47] : List UInt8)) t361 t364) else (impl_makeAt.j0 k a1 a2 true t361 t364))) = some (r1, r2, r3) := by first | (rw [hy365]; with_reducible exact H) | (have H2_ := (Option.bind_some _ _).symm.trans H; rw [hy365]; with_reducible exact H2_) | (have H2_ := (Option.bind_some _ _).symm.trans H; with_reducible exact H2_) | with_reducible exact H | (rw [hy365]; exact H) | exact H
  have Ny365 := Aside0.mk hy365
  clear hy365
  replace H := bA H
  obtain ⟨t368, A13, H⟩ := H
  try dsimp only at H
  replace H := itB H
  rcases H with ⟨rfl, H⟩ | ⟨rfl, H⟩
  ·have H' := Aside0.mk H
   clear H
   have hnb15 := NB359_360.out
   have hnc15 := NB360_359.out
   obtain ⟨⟨_, _⟩, _, _⟩ := z2 BK359
   go_wp2_with (first | ((with_reducible refine gate_dst (N := 15) rfl ?_); (try (refine gate_guard (by rfl) ?_; dsimp only)); refine Kd.R_lit Kd.string _ 9 ?hg (N := 15) ?hd (xs := ([a1] : List ByteArray)) (inner := [.string a1]) (ok := fun _ => True) (okp := fun _ => True) ?hr ?hp (fun _ hk => hk) trivial (Below.refl _ _) (Nat.le_refl _) (by simp) ?_; (case hd => rfl); (case hg => rfl); (case hr => first | (go_simp; done) | (go_simp; rfl)); (case hp => exact (Reps.one (show Kd.M Kd.string _ _ _ a1 [.string a1] from rfl) (Reps.none _ _))); intro v366 w17 ho18 hb hg_ hnew_; clear hg_ hnew_; (first | rw [← Ny365.out] at ho18 | (simp only [Int.reduceToNat] at ho18; rw [← Ny365.out] at ho18)); have HO367 := Aside0.mk (Kd.R_lower ho18 (below_size oB)); replace HO363 := beS1 HO363 BK359 hb; replace BK359 := kp_ #[.slice Ao11 t361.length co11, .int .i64 t364] BK359 hb; replace BK360 := kb_ BK360 hb; replace HB := Aside0.mk (below_step oB hb); clear hb ho18; obtain ⟨Ao19, co19, eo19⟩ := Kd.R_slice HO367.out; subst eo19) | ((with_reducible refine gate_callee (f := 46) rfl ?_); refine gl_ 16 Tryz.func46 (impl_ready.calls k _ _ t361 t364 _ _ y365 true _ (rcS0 HO363) (rnS HO363) (kO HO367) (ko HO367) A13.out) ?_; rintro e w20 ⟨rfl, hb⟩; refine ⟨_, rfl, ?_⟩; replace HO363 := beS0 HO363 hb; replace HO367 := kr_ HO367 hb; replace BK359 := kb_ BK359 hb; replace BK360 := kb_ BK360 hb; replace HB := Aside0.mk (below_step oB hb)))
   go_meet
   case rel => exact ⟨_, ((a1.toList == ([47] : List UInt8))), oS, H', ⟨by first | omega | exact Nat.le_refl _⟩, ⟨by (with_reducible repeat (first | apply Kd.S_alloc | apply Kd.S_drewN | apply Kd.S_drew)); exact HO363.out⟩, ⟨oF BK359⟩, ⟨oF BK360⟩, ⟨oB⟩⟩
  ·have H' := Aside0.mk H
   clear H
   have hnb21 := NB359_360.out
   have hnc21 := NB360_359.out
   obtain ⟨⟨_, _⟩, _, _⟩ := z2 BK359
   go_wp2_with (first | ((with_reducible refine gate_dst (N := 15) rfl ?_); (try (refine gate_guard (by rfl) ?_; dsimp only)); refine Kd.R_lit Kd.string _ 9 ?hg (N := 15) ?hd (xs := ([a1] : List ByteArray)) (inner := [.string a1]) (ok := fun _ => True) (okp := fun _ => True) ?hr ?hp (fun _ hk => hk) trivial (Below.refl _ _) (Nat.le_refl _) (by simp) ?_; (case hd => rfl); (case hg => rfl); (case hr => first | (go_simp; done) | (go_simp; rfl)); (case hp => exact (Reps.one (show Kd.M Kd.string _ _ _ a1 [.string a1] from rfl) (Reps.none _ _))); intro v366 w23 ho24 hb hg_ hnew_; clear hg_ hnew_; (first | rw [← Ny365.out] at ho24 | (simp only [Int.reduceToNat] at ho24; rw [← Ny365.out] at ho24)); have HO367 := Aside0.mk (Kd.R_lower ho24 (below_size oB)); replace HO363 := beS1 HO363 BK359 hb; replace BK359 := kp_ #[.slice Ao11 t361.length co11, .int .i64 t364] BK359 hb; replace BK360 := kb_ BK360 hb; replace HB := Aside0.mk (below_step oB hb); clear hb ho24; obtain ⟨Ao25, co25, eo25⟩ := Kd.R_slice HO367.out; subst eo25) | ((with_reducible refine gate_callee (f := 46) rfl ?_); refine gl_ 16 Tryz.func46 (impl_ready.calls k _ _ t361 t364 _ _ y365 false _ (rcS0 HO363) (rnS HO363) (kO HO367) (ko HO367) A13.out) ?_; rintro e w26 ⟨rfl, hb⟩; refine ⟨_, rfl, ?_⟩; replace HO363 := beS0 HO363 hb; replace HO367 := kr_ HO367 hb; replace BK359 := kb_ BK359 hb; replace BK360 := kb_ BK360 hb; replace HB := Aside0.mk (below_step oB hb)))
   go_meet
   case rel => exact ⟨_, (true), oS, H', ⟨by first | omega | exact Nat.le_refl _⟩, ⟨by (with_reducible repeat (first | apply Kd.S_alloc | apply Kd.S_drewN | apply Kd.S_drew)); exact HO363.out⟩, ⟨oF BK359⟩, ⟨oF BK360⟩, ⟨oB⟩⟩
 case rest =>
  clear HC5
  obtain ⟨kq, x21_4, rfl, HA, HJ4, HO_360000, BK359, BK360, HB⟩ := hcut
  cases kq with
  | zero => exact absurd HA.out (by simp [impl_makeAt.j0])
  | succ kj4 =>
   have H := HA.out
   clear HA
   simp only [impl_makeAt.j0] at H
   replace H := itB H
   rcases H with ⟨rfl, H⟩ | ⟨rfl, H⟩
   ·simp only [Option.some.injEq, Prod.mk.injEq] at H
    obtain ⟨rfl, rfl, rfl⟩ := H
    have hnb28 := NB359_360.out
    have hnc28 := NB360_359.out
    obtain ⟨⟨_, _⟩, _, _⟩ := z2 BK359
    obtain ⟨⟨_, _⟩, _, _⟩ := z2 BK360
    go_wp2
    refine bodyPost_ret (results_ct rfl _ _ gb360 26 #[.slice Ao11 t361.length co11, .int .i64 t364] (0, 0) _ rfl (oP BK360) Tryz.underlying26 rfl (by kernel_rfl)) rfl ?_
    exact ⟨_, oE, by (with_reducible repeat (first | apply Kd.S_alloc | apply Kd.S_drewN | apply Kd.S_drew)); exact Kd.S_mono (Kd.S_far (p := ⟨gb360, 1, none⟩) (Kd.S_far (p := ⟨gb360, 0, none⟩) (Kd.S_types HO_360000.out BK360.out (by decide)) (fun _ hk => hk.2) (.slice Ao11 t361.length co11)) (fun _ hk => hk.2) (.int .i64 t364)) (fun _ hk => trivial), oB⟩
   ·replace H := bA H
    obtain ⟨⟨t369, t370, t371, t372, t375, t378, t381, t382⟩, A31, H⟩ := H
    try dsimp only at H
    by_cases c32 : t382 = 0
    ·rw [if_pos c32] at H
     have c32b0 : (t382 == 0) = true := beq_iff_eq.mpr c32
     have c32b1 : (t382 != 0) = false := bne_eq_false_iff_eq.mpr c32
     clear c32
     replace H := bA H
     obtain ⟨t384, A33, H⟩ := H
     try dsimp only at H
     by_cases c34 : t384 = 0
     ·rw [if_pos c34] at H
      have c34b0 : (t384 == 0) = true := beq_iff_eq.mpr c34
      have c34b1 : (t384 != 0) = false := bne_eq_false_iff_eq.mpr c34
      clear c34
      have HC35 := Aside0.mk H
      clear H
      have hnb36 := NB359_360.out
      have hnc36 := NB360_359.out
      obtain ⟨⟨_, _⟩, _, _⟩ := z2 BK359
      go_upto_region 9 with (first | ((with_reducible refine gate_callee (f := 57) rfl ?_); refine gl_ 26 Tryz.func57 (impl_spotOf.calls kj4 _ _ t361 t364 a1 t369 t370 t371 t372 t375 t378 t381 t382 _ (rcS0 HO_360000) (rnS HO_360000) A31.out) ?_; rintro e w38 ⟨v373, v376, v379, rfl, ho0, ho1, ho2, hb⟩; refine ⟨_, rfl, ?_⟩; have HO374 := Aside0.mk (Kd.R_lower ho0 (below_size oB)); have HO377 := Aside0.mk (Kd.R_lower ho1 (below_size oB)); have HO380 := Aside0.mk (Kd.R_lower ho2 (below_size oB)); replace HO_360000 := tdS3 (olS0 HO_360000 hb) (Kd.R_base ho0) (Kd.R_base ho1) (Kd.R_base ho2); replace BK359 := kb_ BK359 hb; replace BK360 := kb_ BK360 hb; replace HB := Aside0.mk (below_step oB hb); (try clear ho1); (try clear ho2)) | ((with_reducible refine gate_dst (N := 8) rfl ?_); (try (refine gate_guard (by rfl) ?_; dsimp only)); refine bx_ 8 #[.int .i64 0, .int .i64 0, .int .i64 0, .slice none 0 0, .slice none 0 0, .slice none 0 0, .string (⟨#[]⟩ : ByteArray)] 84 ?_; intro gb383 hg w39 hbox hb; have BK383 := Aside0.mk (hbox); have GW383 := gs_ hg; have NB359_383 := nl_ hg BK359; have NB383_359 := nr_ hg BK359; have NB360_383 := nl_ hg BK360; have NB383_360 := nr_ hg BK360; replace HO_360000 := beS0 HO_360000 hb; replace HO374 := kr_ HO374 hb; replace HO377 := kr_ HO377 hb; replace HO380 := kr_ HO380 hb; replace BK359 := kb_ BK359 hb; replace BK360 := kb_ BK360 hb; replace HB := Aside0.mk (below_step oB hb); clear hb hbox hg; have hnb40 := NB383_359.out; have hnc40 := NB359_383.out; have hnb41 := NB383_360.out; have hnc41 := NB360_383.out; obtain ⟨⟨_, _, _, _, _, _, _⟩, _, _, _, _, _, _, _⟩ := z7 BK383; obtain ⟨Ao43, co43, eo43⟩ := Kd.R_slice HO374.out; subst eo43; obtain ⟨Ao44, co44, eo44⟩ := Kd.R_slice HO377.out; subst eo44; obtain ⟨Ao45, co45, eo45⟩ := Kd.R_slice HO380.out; subst eo45) | ((with_reducible refine gate_callee (f := 58) rfl ?_); refine gl_ 39 Tryz.func58 (impl_EntOf.calls kj4 t369 t370 t371 _ _ t372 _ _ t375 _ _ t378 t381 t384 _ (rcR1 HO374 BK383) (ko HO374) (rcR1 HO377 BK383) (ko HO377) (rcR1 HO380 BK383) (ko HO380) A33.out) ?_; rintro e w46 ⟨rfl, hb⟩; refine ⟨_, rfl, ?_⟩; replace HO_360000 := beS1 HO_360000 BK383 hb; replace HO374 := beR1 HO374 BK383 hb; replace HO377 := beR1 HO377 BK383 hb; replace HO380 := beR1 HO380 BK383 hb; replace BK359 := kb_ BK359 hb; replace BK360 := kb_ BK360 hb; replace BK383 := kp_ #[.int .i64 t369, .int .i64 t370, .int .i64 t371, .slice Ao43 t372.length co43, .slice Ao44 t375.length co44, .slice Ao45 t378.length co45, .string t381] BK383 hb; replace HB := Aside0.mk (below_step oB hb); (try clear hk)))
      (try simp only [Act.put, List.setIfInBounds_toArray, List.set_cons_zero, List.set_cons_succ])
      go_cut [42] (fun v42 wc => ∃ (kq : Nat) (x42_34 : Bool), v42 = .bool x42_34 ∧ Aside0 (impl_makeAt.j1 kq a2 x42_34 t361 t364 t369 t370 t371 t372 t375 t378 t381 = some (r1, r2, r3)) ∧ Aside0 (kq ≤ kj4) ∧ Aside0 (Kd.S k51 51 wc w.heap.size (fun k_ => some k_ ≠ ((.slice Ao43 t372.length co43) : Value).ownBlock ∧ some k_ ≠ ((.slice Ao44 t375.length co44) : Value).ownBlock ∧ some k_ ≠ ((.slice Ao45 t378.length co45) : Value).ownBlock) (.slice Ao11 t361.length co11) t361) ∧ Aside0 (Kd.R (Kd.int .u8) 5 wc w.heap.size (fun _ => True) (.slice Ao43 t372.length co43) t372) ∧ Aside0 (Kd.R k65 65 wc w.heap.size (fun _ => True) (.slice Ao44 t375.length co44) t375) ∧ Aside0 (Kd.R k71 71 wc w.heap.size (fun _ => True) (.slice Ao45 t378.length co45) t378) ∧ Aside0 (wc.heap[gb359]? = some (.cells #[(.slice Ao11 t361.length co11), .int .i64 t364] 26 (0, 0))) ∧ Aside0 (wc.heap[gb360]? = some (.cells #[(.slice none 0 0), .int .i64 0] 26 (0, 0))) ∧ Aside0 (wc.heap[gb383]? = some (.cells #[.int .i64 t369, .int .i64 t370, .int .i64 t371, (.slice Ao43 t372.length co43), (.slice Ao44 t375.length co44), (.slice Ao45 t378.length co45), .string t381] 84 (0, 0))) ∧ Aside0 (Below w.heap.size w wc))
      case first =>
       have H := HC35.out
       clear HC35
       by_cases c47 : (t375.length : Int) = 10
       ·rw [if_pos c47] at H
        have c47b0 : ((t375.length : Int) == 10) = true := beq_iff_eq.mpr c47
        have c47b1 : ((t375.length : Int) != 10) = false := bne_eq_false_iff_eq.mpr c47
        clear c47
        (first | rw [c47b0] | rw [c47b2] | (simp only [i64_w, i32_w]; rw [c47b0]) | skip)
        have H' := Aside0.mk H
        clear H
        have hnb48 := NB383_359.out
        have hnc48 := NB359_383.out
        have hnb49 := NB383_360.out
        have hnc49 := NB360_383.out
        obtain ⟨⟨_, _, _, _, _, _, _⟩, _, _, _, _, _, _, _⟩ := z7 BK383
        go_wp2
        go_meet
        case rel => exact ⟨_, (true), oS, H', ⟨by have := HJ4.out; first | omega | exact Nat.le_refl _⟩, ⟨by (with_reducible repeat (first | apply Kd.S_alloc | apply Kd.S_drewN | apply Kd.S_drew)); exact Kd.S_mono HO_360000.out (fun _ hk => ⟨hk.1.1.2, ⟨hk.1.2, hk.2⟩⟩)⟩, ⟨oR HO374⟩, ⟨oR HO377⟩, ⟨oR HO380⟩, ⟨oF BK359⟩, ⟨oF BK360⟩, ⟨oF BK383⟩, ⟨oB⟩⟩
       ·rw [if_neg c47] at H
        have c47b0 : ((t375.length : Int) == 10) = false := beq_eq_false_iff_ne.mpr c47
        have c47b1 : ((t375.length : Int) != 10) = true := bne_iff_ne.mpr c47
        (first | rw [c47b0] | rw [c47b2] | (simp only [i64_w, i32_w]; rw [c47b0]) | skip)
        by_cases c51 : (t361.length : Int) = 30
        ·rw [if_pos c51] at H
         have c51b0 : ((t361.length : Int) == 30) = true := beq_iff_eq.mpr c51
         have c51b1 : ((t361.length : Int) != 30) = false := bne_eq_false_iff_eq.mpr c51
         clear c51
         have H' := Aside0.mk H
         clear H
         have hnb52 := NB383_359.out
         have hnc52 := NB359_383.out
         have hnb53 := NB383_360.out
         have hnc53 := NB360_383.out
         obtain ⟨⟨_, _, _, _, _, _, _⟩, _, _, _, _, _, _, _⟩ := z7 BK383
         have hnb55 := NB359_360.out
         have hnc55 := NB360_359.out
         obtain ⟨⟨_, _⟩, _, _⟩ := z2 BK359
         go_wp2
         go_meet
         case rel => exact ⟨_, (true), oS, H', ⟨by have := HJ4.out; first | omega | exact Nat.le_refl _⟩, ⟨by (with_reducible repeat (first | apply Kd.S_alloc | apply Kd.S_drewN | apply Kd.S_drew)); exact Kd.S_mono HO_360000.out (fun _ hk => ⟨hk.1.1.2, ⟨hk.1.2, hk.2⟩⟩)⟩, ⟨oR HO374⟩, ⟨oR HO377⟩, ⟨oR HO380⟩, ⟨oF BK359⟩, ⟨oF BK360⟩, ⟨oF BK383⟩, ⟨oB⟩⟩
        ·rw [if_neg c51] at H
         have c51b0 : ((t361.length : Int) == 30) = false := beq_eq_false_iff_ne.mpr c51
         have c51b1 : ((t361.length : Int) != 30) = true := bne_iff_ne.mpr c51
         have H' := Aside0.mk H
         clear H
         have hnb57 := NB383_359.out
         have hnc57 := NB359_383.out
         have hnb58 := NB383_360.out
         have hnc58 := NB360_383.out
         obtain ⟨⟨_, _, _, _, _, _, _⟩, _, _, _, _, _, _, _⟩ := z7 BK383
         have hnb60 := NB359_360.out
         have hnc60 := NB360_359.out
         obtain ⟨⟨_, _⟩, _, _⟩ := z2 BK359
         go_wp2
         go_meet
         case rel => exact ⟨_, ((t364 == 1000)), oS, H', ⟨by have := HJ4.out; first | omega | exact Nat.le_refl _⟩, ⟨by (with_reducible repeat (first | apply Kd.S_alloc | apply Kd.S_drewN | apply Kd.S_drew)); exact Kd.S_mono HO_360000.out (fun _ hk => ⟨hk.1.1.2, ⟨hk.1.2, hk.2⟩⟩)⟩, ⟨oR HO374⟩, ⟨oR HO377⟩, ⟨oR HO380⟩, ⟨oF BK359⟩, ⟨oF BK360⟩, ⟨oF BK383⟩, ⟨oB⟩⟩
      case rest =>
       clear HC35
       try clear c32
       try clear c32b0
       try clear c32b1
       try clear c34
       obtain ⟨kq, x42_34, rfl, HA, HJ34, HO_360000, HO_384003, HO_384004, HO_384005, BK359, BK360, BK383, HB⟩ := hcut
       cases kq with
       | zero => exact absurd HA.out (by simp [impl_makeAt.j1])
       | succ kj34 =>
        have H := HA.out
        clear HA
        simp only [impl_makeAt.j1] at H
        replace H := itB H
        rcases H with ⟨rfl, H⟩ | ⟨rfl, H⟩
        ·simp only [Option.some.injEq, Prod.mk.injEq] at H
         obtain ⟨rfl, rfl, rfl⟩ := H
         have hnb63 := NB359_360.out
         have hnc63 := NB360_359.out
         have hnb64 := NB359_383.out
         have hnc64 := NB383_359.out
         obtain ⟨⟨_, _⟩, _, _⟩ := z2 BK359
         have hnb66 := NB360_383.out
         have hnc66 := NB383_360.out
         obtain ⟨⟨_, _⟩, _, _⟩ := z2 BK360
         go_wp2
         refine bodyPost_ret (results_ct rfl _ _ gb360 26 #[.slice Ao11 t361.length co11, .int .i64 t364] (0, 0) _ rfl (oP BK360) Tryz.underlying26 rfl (by kernel_rfl)) rfl ?_
         exact ⟨_, oE, by (with_reducible repeat (first | apply Kd.S_alloc | apply Kd.S_drewN | apply Kd.S_drew)); exact Kd.S_mono (Kd.S_far (p := ⟨gb360, 1, none⟩) (Kd.S_far (p := ⟨gb360, 0, none⟩) (Kd.S_types HO_360000.out BK360.out (by decide)) (fun _ hk => hk.2) (.slice Ao11 t361.length co11)) (fun _ hk => hk.2) (.int .i64 t364)) (fun _ hk => trivial), oB⟩
        ·replace H := bA H
         obtain ⟨⟨t386, t389⟩, A68, H⟩ := H
         try dsimp only at H
         replace H := bA H
         obtain ⟨⟨t390, t393⟩, A69, H⟩ := H
         try dsimp only at H
         simp only [Option.some.injEq, Prod.mk.injEq] at H
         obtain ⟨rfl, rfl, rfl⟩ := H
         have hnb70 := NB359_360.out
         have hnc70 := NB360_359.out
         have hnb71 := NB359_383.out
         have hnc71 := NB383_359.out
         obtain ⟨⟨_, _⟩, _, _⟩ := z2 BK359
         try go_wp2_with (first | ((with_reducible refine gate_dst (N := 10) rfl ?_); (try (refine gate_guard (by rfl) ?_; dsimp only)); refine bx_ 10 #[.int .i64 0, .int .i64 0, .int .i64 0, .slice none 0 0, .slice none 0 0, .slice none 0 0] 51 ?_; intro gb385 hg w73 hbox hb; have BK385 := Aside0.mk (hbox); have GW385 := gs_ hg; have NB359_385 := nl_ hg BK359; have NB385_359 := nr_ hg BK359; have NB360_385 := nl_ hg BK360; have NB385_360 := nr_ hg BK360; have NB383_385 := nl_ hg BK383; have NB385_383 := nr_ hg BK383; replace HO_360000 := Aside0.mk (Kd.S_below (Kd.S_elderB (nS0 HO_360000) gb385 (Nat.le_of_eq hg.symm)) hb); replace HO_384003 := kr_ HO_384003 hb; replace HO_384004 := kr_ HO_384004 hb; replace HO_384005 := kr_ HO_384005 hb; replace BK359 := kb_ BK359 hb; replace BK360 := kb_ BK360 hb; replace BK383 := kb_ BK383 hb; replace HB := Aside0.mk (below_step oB hb); clear hb hbox hg; have hnb74 := NB385_359.out; have hnc74 := NB359_385.out; have hnb75 := NB385_360.out; have hnc75 := NB360_385.out; have hnb76 := NB385_383.out; have hnc76 := NB383_385.out; obtain ⟨⟨_, _, _, _, _, _⟩, _, _, _, _, _, _⟩ := z6 BK385; obtain ⟨⟨_, _⟩, _, _⟩ := z2 BK359))
         have n0_ : Aside0 (Kd.S k51 51 (((((((w73.setCell ⟨gb385, 0, none⟩ (.int .i64 t364)).setCell ⟨gb385, 1, none⟩ (.int .i64 a2)).setCell ⟨gb385, 2, none⟩ (.int .i64 1)).setCell ⟨gb385, 3, none⟩ (.slice none 0 0)).setCell ⟨gb385, 4, none⟩ (.slice none 0 0)).setCell ⟨gb385, 5, none⟩ (.slice none 0 0)).setCell ⟨gb359, 1, none⟩ (.int .i64 (wrap64 (t364 + 1)))) w.heap.size (fun k_ => some k_ ≠ (.slice Ao43 t372.length co43 : Value).ownBlock ∧ some k_ ≠ (.slice Ao44 t375.length co44 : Value).ownBlock ∧ some k_ ≠ (.slice Ao45 t378.length co45 : Value).ownBlock ∧ k_ ≠ gb385) (.slice Ao11 t361.length co11) t361) := ⟨by (with_reducible repeat (first | apply Kd.S_alloc | apply Kd.S_drewN | apply Kd.S_drew)); exact Kd.S_mono (Kd.S_far (p := ⟨gb359, 1, none⟩) (Kd.S_far (p := ⟨gb385, 5, none⟩) (Kd.S_far (p := ⟨gb385, 4, none⟩) (Kd.S_far (p := ⟨gb385, 3, none⟩) (Kd.S_far (p := ⟨gb385, 2, none⟩) (Kd.S_far (p := ⟨gb385, 1, none⟩) (Kd.S_far (p := ⟨gb385, 0, none⟩) (Kd.S_types (Kd.S_mono HO_360000.out (fun k_ hk => (⟨hk, hk.2⟩ : _ ∧ k_ ≠ gb385))) BK359.out (by decide)) (fun _ hk => hk.1.2) (.int .i64 t364)) (fun _ hk => hk.1.2) (.int .i64 a2)) (fun _ hk => hk.1.2) (.int .i64 1)) (fun _ hk => hk.1.2) (.slice none 0 0)) (fun _ hk => hk.1.2) (.slice none 0 0)) (fun _ hk => hk.1.2) (.slice none 0 0)) (fun _ hk => hk.2) (.int .i64 (wrap64 (t364 + 1)))) (fun _ hk => ⟨hk.1.1.1.1, ⟨hk.1.1.1.2.1, ⟨hk.1.1.1.2.2, hk.1.1.2⟩⟩⟩)⟩
         have n1_ : Aside0 (Kd.R (Kd.int .u8) 5 (((((((w73.setCell ⟨gb385, 0, none⟩ (.int .i64 t364)).setCell ⟨gb385, 1, none⟩ (.int .i64 a2)).setCell ⟨gb385, 2, none⟩ (.int .i64 1)).setCell ⟨gb385, 3, none⟩ (.slice none 0 0)).setCell ⟨gb385, 4, none⟩ (.slice none 0 0)).setCell ⟨gb385, 5, none⟩ (.slice none 0 0)).setCell ⟨gb359, 1, none⟩ (.int .i64 (wrap64 (t364 + 1)))) w.heap.size (fun _ => True) (.slice Ao43 t372.length co43) t372) := ⟨by (with_reducible repeat (first | apply Kd.R_alloc | apply Kd.R_drewN | apply Kd.R_drew)); exact Kd.R_mono (Kd.R_far (p := ⟨gb359, 1, none⟩) (Kd.R_far (p := ⟨gb385, 5, none⟩) (Kd.R_far (p := ⟨gb385, 4, none⟩) (Kd.R_far (p := ⟨gb385, 3, none⟩) (Kd.R_far (p := ⟨gb385, 2, none⟩) (Kd.R_far (p := ⟨gb385, 1, none⟩) (Kd.R_far (p := ⟨gb385, 0, none⟩) (Kd.R_types (Kd.R_types HO_384003.out BK385.out (by decide)) BK359.out (by decide)) (fun _ hk => hk.1.2) (.int .i64 t364)) (fun _ hk => hk.1.2) (.int .i64 a2)) (fun _ hk => hk.1.2) (.int .i64 1)) (fun _ hk => hk.1.2) (.slice none 0 0)) (fun _ hk => hk.1.2) (.slice none 0 0)) (fun _ hk => hk.1.2) (.slice none 0 0)) (fun _ hk => hk.2) (.int .i64 (wrap64 (t364 + 1)))) (fun _ hk => trivial)⟩
         have n2_ : Aside0 (Kd.R k65 65 (((((((w73.setCell ⟨gb385, 0, none⟩ (.int .i64 t364)).setCell ⟨gb385, 1, none⟩ (.int .i64 a2)).setCell ⟨gb385, 2, none⟩ (.int .i64 1)).setCell ⟨gb385, 3, none⟩ (.slice none 0 0)).setCell ⟨gb385, 4, none⟩ (.slice none 0 0)).setCell ⟨gb385, 5, none⟩ (.slice none 0 0)).setCell ⟨gb359, 1, none⟩ (.int .i64 (wrap64 (t364 + 1)))) w.heap.size (fun _ => True) (.slice Ao44 t375.length co44) t375) := ⟨by (with_reducible repeat (first | apply Kd.R_alloc | apply Kd.R_drewN | apply Kd.R_drew)); exact Kd.R_mono (Kd.R_far (p := ⟨gb359, 1, none⟩) (Kd.R_far (p := ⟨gb385, 5, none⟩) (Kd.R_far (p := ⟨gb385, 4, none⟩) (Kd.R_far (p := ⟨gb385, 3, none⟩) (Kd.R_far (p := ⟨gb385, 2, none⟩) (Kd.R_far (p := ⟨gb385, 1, none⟩) (Kd.R_far (p := ⟨gb385, 0, none⟩) (Kd.R_types (Kd.R_types HO_384004.out BK385.out (by decide)) BK359.out (by decide)) (fun _ hk => hk.1.2) (.int .i64 t364)) (fun _ hk => hk.1.2) (.int .i64 a2)) (fun _ hk => hk.1.2) (.int .i64 1)) (fun _ hk => hk.1.2) (.slice none 0 0)) (fun _ hk => hk.1.2) (.slice none 0 0)) (fun _ hk => hk.1.2) (.slice none 0 0)) (fun _ hk => hk.2) (.int .i64 (wrap64 (t364 + 1)))) (fun _ hk => trivial)⟩
         have n3_ : Aside0 (Kd.R k71 71 (((((((w73.setCell ⟨gb385, 0, none⟩ (.int .i64 t364)).setCell ⟨gb385, 1, none⟩ (.int .i64 a2)).setCell ⟨gb385, 2, none⟩ (.int .i64 1)).setCell ⟨gb385, 3, none⟩ (.slice none 0 0)).setCell ⟨gb385, 4, none⟩ (.slice none 0 0)).setCell ⟨gb385, 5, none⟩ (.slice none 0 0)).setCell ⟨gb359, 1, none⟩ (.int .i64 (wrap64 (t364 + 1)))) w.heap.size (fun _ => True) (.slice Ao45 t378.length co45) t378) := ⟨by (with_reducible repeat (first | apply Kd.R_alloc | apply Kd.R_drewN | apply Kd.R_drew)); exact Kd.R_mono (Kd.R_far (p := ⟨gb359, 1, none⟩) (Kd.R_far (p := ⟨gb385, 5, none⟩) (Kd.R_far (p := ⟨gb385, 4, none⟩) (Kd.R_far (p := ⟨gb385, 3, none⟩) (Kd.R_far (p := ⟨gb385, 2, none⟩) (Kd.R_far (p := ⟨gb385, 1, none⟩) (Kd.R_far (p := ⟨gb385, 0, none⟩) (Kd.R_types (Kd.R_types HO_384005.out BK385.out (by decide)) BK359.out (by decide)) (fun _ hk => hk.1.2) (.int .i64 t364)) (fun _ hk => hk.1.2) (.int .i64 a2)) (fun _ hk => hk.1.2) (.int .i64 1)) (fun _ hk => hk.1.2) (.slice none 0 0)) (fun _ hk => hk.1.2) (.slice none 0 0)) (fun _ hk => hk.1.2) (.slice none 0 0)) (fun _ hk => hk.2) (.int .i64 (wrap64 (t364 + 1)))) (fun _ hk => trivial)⟩
         have n4_ : Aside0 ((((((((w73.setCell ⟨gb385, 0, none⟩ (.int .i64 t364)).setCell ⟨gb385, 1, none⟩ (.int .i64 a2)).setCell ⟨gb385, 2, none⟩ (.int .i64 1)).setCell ⟨gb385, 3, none⟩ (.slice none 0 0)).setCell ⟨gb385, 4, none⟩ (.slice none 0 0)).setCell ⟨gb385, 5, none⟩ (.slice none 0 0)).setCell ⟨gb359, 1, none⟩ (.int .i64 (wrap64 (t364 + 1)))).heap[gb359]? = some (.cells #[.slice Ao11 t361.length co11, .int .i64 (wrap64 (t364 + 1))] 26 (0, 0))) := ⟨oP BK359⟩
         have n5_ : Aside0 ((((((((w73.setCell ⟨gb385, 0, none⟩ (.int .i64 t364)).setCell ⟨gb385, 1, none⟩ (.int .i64 a2)).setCell ⟨gb385, 2, none⟩ (.int .i64 1)).setCell ⟨gb385, 3, none⟩ (.slice none 0 0)).setCell ⟨gb385, 4, none⟩ (.slice none 0 0)).setCell ⟨gb385, 5, none⟩ (.slice none 0 0)).setCell ⟨gb359, 1, none⟩ (.int .i64 (wrap64 (t364 + 1)))).heap[gb360]? = some (.cells #[.slice none 0 0, .int .i64 0] 26 (0, 0))) := ⟨oF BK360⟩
         have n6_ : Aside0 ((((((((w73.setCell ⟨gb385, 0, none⟩ (.int .i64 t364)).setCell ⟨gb385, 1, none⟩ (.int .i64 a2)).setCell ⟨gb385, 2, none⟩ (.int .i64 1)).setCell ⟨gb385, 3, none⟩ (.slice none 0 0)).setCell ⟨gb385, 4, none⟩ (.slice none 0 0)).setCell ⟨gb385, 5, none⟩ (.slice none 0 0)).setCell ⟨gb359, 1, none⟩ (.int .i64 (wrap64 (t364 + 1)))).heap[gb383]? = some (.cells #[.int .i64 t369, .int .i64 t370, .int .i64 t371, .slice Ao43 t372.length co43, .slice Ao44 t375.length co44, .slice Ao45 t378.length co45, .string t381] 84 (0, 0))) := ⟨oF BK383⟩
         have n7_ : Aside0 ((((((((w73.setCell ⟨gb385, 0, none⟩ (.int .i64 t364)).setCell ⟨gb385, 1, none⟩ (.int .i64 a2)).setCell ⟨gb385, 2, none⟩ (.int .i64 1)).setCell ⟨gb385, 3, none⟩ (.slice none 0 0)).setCell ⟨gb385, 4, none⟩ (.slice none 0 0)).setCell ⟨gb385, 5, none⟩ (.slice none 0 0)).setCell ⟨gb359, 1, none⟩ (.int .i64 (wrap64 (t364 + 1)))).heap[gb385]? = some (.cells #[.int .i64 t364, .int .i64 a2, .int .i64 1, .slice none 0 0, .slice none 0 0, .slice none 0 0] 51 (0, 0))) := ⟨oP BK385⟩
         have n8_ : Aside0 (Below w.heap.size w (((((((w73.setCell ⟨gb385, 0, none⟩ (.int .i64 t364)).setCell ⟨gb385, 1, none⟩ (.int .i64 a2)).setCell ⟨gb385, 2, none⟩ (.int .i64 1)).setCell ⟨gb385, 3, none⟩ (.slice none 0 0)).setCell ⟨gb385, 4, none⟩ (.slice none 0 0)).setCell ⟨gb385, 5, none⟩ (.slice none 0 0)).setCell ⟨gb359, 1, none⟩ (.int .i64 (wrap64 (t364 + 1))))) := ⟨oB⟩
         (try clear HO_360000)
         (try clear HO_384003)
         (try clear HO_384004)
         (try clear HO_384005)
         (try clear BK359)
         (try clear BK360)
         (try clear BK383)
         (try clear BK385)
         (try clear HB)
         generalize (((((((w73.setCell ⟨gb385, 0, none⟩ (.int .i64 t364)).setCell ⟨gb385, 1, none⟩ (.int .i64 a2)).setCell ⟨gb385, 2, none⟩ (.int .i64 1)).setCell ⟨gb385, 3, none⟩ (.slice none 0 0)).setCell ⟨gb385, 4, none⟩ (.slice none 0 0)).setCell ⟨gb385, 5, none⟩ (.slice none 0 0)).setCell ⟨gb359, 1, none⟩ (.int .i64 (wrap64 (t364 + 1)))) = w79 at n0_ n1_ n2_ n3_ n4_ n5_ n6_ n7_ n8_ ⊢
         have HO_360000 := n0_
         have HO_384003 := n1_
         have HO_384004 := n2_
         have HO_384005 := n3_
         have BK359 := n4_
         have BK360 := n5_
         have BK383 := n6_
         have BK385 := n7_
         have HB := n8_
         clear n0_ n1_ n2_ n3_ n4_ n5_ n6_ n7_ n8_
         replace HO_360000 := Aside0.mk (Kd.S_drew HO_360000.out)
         replace HO_384003 := Aside0.mk (Kd.R_drew HO_384003.out)
         replace HO_384004 := Aside0.mk (Kd.R_drew HO_384004.out)
         replace HO_384005 := Aside0.mk (Kd.R_drew HO_384005.out)
         replace BK359 := Aside0.mk (blk_drew BK359.out)
         replace BK360 := Aside0.mk (blk_drew BK360.out)
         replace BK383 := Aside0.mk (blk_drew BK383.out)
         replace BK385 := Aside0.mk (blk_drew BK385.out)
         replace HB := Aside0.mk (below_drew1 HB.out)
         refine st_ 9 (fun w' => w'.cell? ⟨gb383, 0, none⟩ = some (.int .i64 t369) ∧ w'.cell? ⟨gb383, 1, none⟩ = some (.int .i64 t370) ∧ w'.cell? ⟨gb383, 2, none⟩ = some (.int .i64 t371) ∧ w'.cell? ⟨gb383, 3, none⟩ = some (.slice Ao43 t372.length co43) ∧ w'.cell? ⟨gb383, 4, none⟩ = some (.slice Ao44 t375.length co44) ∧ w'.cell? ⟨gb383, 5, none⟩ = some (.slice Ao45 t378.length co45) ∧ w'.cell? ⟨gb383, 6, none⟩ = some (.string t381) ∧ w'.cell? ⟨gb359, 0, none⟩ = some (.slice Ao11 t361.length co11) ∧ w'.cell? ⟨gb359, 1, none⟩ = some (.int .i64 (wrap64 (t364 + 1))) ∧ w'.cell? ⟨gb385, 0, none⟩ = some (.int .i64 t364) ∧ w'.cell? ⟨gb385, 1, none⟩ = some (.int .i64 a2) ∧ w'.cell? ⟨gb385, 2, none⟩ = some (.int .i64 1) ∧ w'.cell? ⟨gb385, 3, none⟩ = some (.slice none 0 0) ∧ w'.cell? ⟨gb385, 4, none⟩ = some (.slice none 0 0) ∧ w'.cell? ⟨gb385, 5, none⟩ = some (.slice none 0 0)) impl_makeAt.tab13 impl_makeAt.bits13 oH (fun hHeld HT_ HW_ => ?_)
         generalize w79.drew = w80 at HO_360000 HO_384003 HO_384004 HO_384005 BK359 BK360 BK383 BK385 HB hHeld ⊢
         refine pu_ 2 70 HT_ ?_
         refine ta_ 0 68 HT_ HW_ hHeld ?_
         refine ta_ 1 69 HT_ HW_ hHeld ?_
         refine ta_ 3 71 HT_ HW_ hHeld ?_
         refine ta_ 5 73 HT_ HW_ hHeld ?_
         refine on_ 4 72 HT_ (fun K hK => ?_)
         refine gr_ 72 Tryz.func59 (impl_spot_enter.calls kj34 t369 t370 t371 _ _ t372 _ _ t375 _ _ t378 t381 _ _ t361 (wrap64 (t364 + 1)) t364 t386 t389 _ (kO HO_384003) (ko HO_384003) (kO HO_384004) (ko HO_384004) (kO HO_384005) (ko HO_384005) (rcS0 HO_360000) (rnS HO_360000) A68.out) ?_
         rintro e w81 ⟨v387, rfl, ho0, hb⟩
         refine ⟨_, rfl, ?_⟩
         have HO388 := Aside0.mk (Kd.S_lower (Kd.S_newB (Kd.S_new' (Kd.S_new' (Kd.S_new' (Kd.S_new' ho0 (ltS0 HO_360000)) (kl_ HO_384003)) (kl_ HO_384004)) (kl_ HO_384005)) (g := gb385) (o := .cells #[.int .i64 t364, .int .i64 a2, .int .i64 1, .slice none 0 0, .slice none 0 0, .slice none 0 0] 51 (0, 0)) (oF BK385)) (below_size oB))
         replace HO_360000 := elS0 HO_360000 (Kd.S_base ho0) hb
         replace HO_384003 := kr_ HO_384003 hb
         replace HO_384004 := kr_ HO_384004 hb
         replace HO_384005 := kr_ HO_384005 hb
         replace BK359 := kb_ BK359 hb
         replace BK360 := kb_ BK360 hb
         replace BK383 := kb_ BK383 hb
         replace BK385 := kb_ BK385 hb
         replace HB := Aside0.mk (below_step oB hb)
         obtain ⟨Ao82, co82, eo82⟩ := Kd.S_slice HO388.out
         (first | subst eo82 | (injection eo82 with f1_ f2_ f3_; have f4_ := f1_.symm; have f5_ := f3_.symm; clear f1_ f2_ f3_; subst f4_; subst f5_))
         refine hk_ hK 72 oH (fun hHeld => ?_)
         clear hK K
         refine on_ 6 74 HT_ (fun K hK => ?_)
         refine goes_ Tryz.func50 (by kernel_rfl) rfl #[.agg #[.slice Ao82 t386.length co82, .int .i64 t389], .agg #[.int .i64 t364, .int .i64 a2, .int .i64 1, .slice none 0 0, .slice none 0 0, .slice none 0 0]] (by rfl) rfl rfl oL ?_
         refine (impl_SetInode.calls kj34 _ _ t386 t389 t364 a2 1 _ _ ([] : List Int) _ _ ([] : List (S65)) _ _ ([] : List (S71)) t390 t393 _ (rcS0 HO388) (rnS HO388) ?side3 ?side4 ?side5 ?side6 ?side7 ?side8 A69.out).mono ?_
         (case side3 => exact Kd.C_nil _ _)
         (case side4 => exact Nat.le_refl _)
         (case side5 => exact Kd.C_nil _ _)
         (case side6 => exact Nat.le_refl _)
         (case side7 => exact Kd.C_nil _ _)
         (case side8 => exact Nat.le_refl _)
         rintro e w83 ⟨v391, rfl, ho0, hb⟩
         refine ⟨_, rfl, ?_⟩
         have HO392 := Aside0.mk (Kd.S_lower (Kd.S_newB (Kd.S_new' (Kd.S_new' (Kd.S_new' (Kd.S_new' (Kd.S_new' ho0 (ltS0 HO_360000)) (kl_ HO_384003)) (kl_ HO_384004)) (kl_ HO_384005)) (ltS0 HO388)) (g := gb385) (o := .cells #[.int .i64 t364, .int .i64 a2, .int .i64 1, .slice none 0 0, .slice none 0 0, .slice none 0 0] 51 (0, 0)) (oF BK385)) (below_size oB))
         replace HO_360000 := elS0 HO_360000 (Kd.S_base ho0) hb
         replace HO_384003 := kr_ HO_384003 hb
         replace HO_384004 := kr_ HO_384004 hb
         replace HO_384005 := kr_ HO_384005 hb
         replace HO388 := elS0 HO388 (Kd.S_base ho0) hb
         replace BK359 := kb_ BK359 hb
         replace BK360 := kb_ BK360 hb
         replace BK383 := kb_ BK383 hb
         replace BK385 := kb_ BK385 hb
         replace HB := Aside0.mk (below_step oB hb)
         obtain ⟨Ao84, co84, eo84⟩ := Kd.S_slice HO392.out
         (first | subst eo84 | (injection eo84 with f1_ f2_ f3_; have f4_ := f1_.symm; have f5_ := f3_.symm; clear f1_ f2_ f3_; subst f4_; subst f5_))
         refine hk_ hK 74 oH (fun hHeld => ?_)
         clear hK K
         refine one_ (i := 7) (N := none) (lb 9 255) rfl rfl (one_of HT_.out (by kernel_rfl)) (by decide) (fun K hK => ?_)
         have hs85 : w83.cell? ⟨gb360, 0, none⟩ = some (.slice none 0 0) := (blk_cell BK360.out 0).trans rfl
         have hfs85 := blk_frozen BK360.out 0
         have hns85_0 := NB359_360.out
         have hns85_2 := NB383_360.out
         have hns85_3 := NB385_360.out
         have hms85_0 := NB360_359.out
         have hms85_2 := NB360_383.out
         have hms85_3 := NB360_385.out
         have hs86 : w83.cell? ⟨gb360, 1, none⟩ = some (.int .i64 0) := (blk_cell BK360.out 1).trans rfl
         have hfs86 := blk_frozen BK360.out 1
         have hns86_0 := NB359_360.out
         have hns86_2 := NB383_360.out
         have hns86_3 := NB385_360.out
         have hms86_0 := NB360_359.out
         have hms86_2 := NB360_383.out
         have hms86_3 := NB360_385.out
         refine skip_ (w1 := ?_) (by rfl) rfl ?_ ?_
         rotate_left
         ·go_simp
          rfl
         refine hK.out _ _ ⟨((cell_far (p := ⟨gb360, _, none⟩) NB383_360.out _).trans (((cell_far (p := ⟨gb360, _, none⟩) NB383_360.out _).trans (hHeld.1)))), ((cell_far (p := ⟨gb360, _, none⟩) NB383_360.out _).trans (((cell_far (p := ⟨gb360, _, none⟩) NB383_360.out _).trans (hHeld.2.1)))), ((cell_far (p := ⟨gb360, _, none⟩) NB383_360.out _).trans (((cell_far (p := ⟨gb360, _, none⟩) NB383_360.out _).trans (hHeld.2.2.1)))), ((cell_far (p := ⟨gb360, _, none⟩) NB383_360.out _).trans (((cell_far (p := ⟨gb360, _, none⟩) NB383_360.out _).trans (hHeld.2.2.2.1)))), ((cell_far (p := ⟨gb360, _, none⟩) NB383_360.out _).trans (((cell_far (p := ⟨gb360, _, none⟩) NB383_360.out _).trans (hHeld.2.2.2.2.1)))), ((cell_far (p := ⟨gb360, _, none⟩) NB383_360.out _).trans (((cell_far (p := ⟨gb360, _, none⟩) NB383_360.out _).trans (hHeld.2.2.2.2.2.1)))), ((cell_far (p := ⟨gb360, _, none⟩) NB383_360.out _).trans (((cell_far (p := ⟨gb360, _, none⟩) NB383_360.out _).trans (hHeld.2.2.2.2.2.2.1)))), ((cell_far (p := ⟨gb360, _, none⟩) NB359_360.out _).trans (((cell_far (p := ⟨gb360, _, none⟩) NB359_360.out _).trans (hHeld.2.2.2.2.2.2.2.1)))), ((cell_far (p := ⟨gb360, _, none⟩) NB359_360.out _).trans (((cell_far (p := ⟨gb360, _, none⟩) NB359_360.out _).trans (hHeld.2.2.2.2.2.2.2.2.1)))), ((cell_far (p := ⟨gb360, _, none⟩) NB385_360.out _).trans (((cell_far (p := ⟨gb360, _, none⟩) NB385_360.out _).trans (hHeld.2.2.2.2.2.2.2.2.2.1)))), ((cell_far (p := ⟨gb360, _, none⟩) NB385_360.out _).trans (((cell_far (p := ⟨gb360, _, none⟩) NB385_360.out _).trans (hHeld.2.2.2.2.2.2.2.2.2.2.1)))), ((cell_far (p := ⟨gb360, _, none⟩) NB385_360.out _).trans (((cell_far (p := ⟨gb360, _, none⟩) NB385_360.out _).trans (hHeld.2.2.2.2.2.2.2.2.2.2.2.1)))), ((cell_far (p := ⟨gb360, _, none⟩) NB385_360.out _).trans (((cell_far (p := ⟨gb360, _, none⟩) NB385_360.out _).trans (hHeld.2.2.2.2.2.2.2.2.2.2.2.2.1)))), ((cell_far (p := ⟨gb360, _, none⟩) NB385_360.out _).trans (((cell_far (p := ⟨gb360, _, none⟩) NB385_360.out _).trans (hHeld.2.2.2.2.2.2.2.2.2.2.2.2.2.1)))), ((cell_far (p := ⟨gb360, _, none⟩) NB385_360.out _).trans (((cell_far (p := ⟨gb360, _, none⟩) NB385_360.out _).trans (hHeld.2.2.2.2.2.2.2.2.2.2.2.2.2.2))))⟩ (fun hHeld => ?_)
         clear hK K
         refine pu_ 8 7 HT_ ?_
         refine dn_ HT_ ?_
         try go_wp2
         refine bodyPost_ret (results_ct rfl _ _ gb360 26 #[.slice Ao84 t390.length co84, .int .i64 t393] (0, 0) _ rfl (oP BK360) Tryz.underlying26 rfl (by kernel_rfl)) rfl ?_
         exact ⟨_, oE, by (with_reducible repeat (first | apply Kd.S_alloc | apply Kd.S_drewN | apply Kd.S_drew)); exact Kd.S_mono (Kd.S_far (p := ⟨gb360, 1, none⟩) (Kd.S_far (p := ⟨gb360, 0, none⟩) (Kd.S_types HO392.out BK360.out (by decide)) (fun _ hk => hk.2) (.slice Ao84 t390.length co84)) (fun _ hk => hk.2) (.int .i64 t393)) (fun _ hk => trivial), oB⟩
     ·rw [if_neg c34] at H
      have c34b0 : (t384 == 0) = false := beq_eq_false_iff_ne.mpr c34
      have c34b1 : (t384 != 0) = true := bne_iff_ne.mpr c34
      simp only [Option.some.injEq, Prod.mk.injEq] at H
      obtain ⟨rfl, rfl, rfl⟩ := H
      have hnb87 := NB359_360.out
      have hnc87 := NB360_359.out
      obtain ⟨⟨_, _⟩, _, _⟩ := z2 BK359
      go_wp2_with (first | ((with_reducible refine gate_callee (f := 57) rfl ?_); refine gl_ 26 Tryz.func57 (impl_spotOf.calls kj4 _ _ t361 t364 a1 t369 t370 t371 t372 t375 t378 t381 t382 _ (rcS0 HO_360000) (rnS HO_360000) A31.out) ?_; rintro e w89 ⟨v373, v376, v379, rfl, ho0, ho1, ho2, hb⟩; refine ⟨_, rfl, ?_⟩; have HO374 := Aside0.mk (Kd.R_lower ho0 (below_size oB)); have HO377 := Aside0.mk (Kd.R_lower ho1 (below_size oB)); have HO380 := Aside0.mk (Kd.R_lower ho2 (below_size oB)); replace HO_360000 := tdS3 (olS0 HO_360000 hb) (Kd.R_base ho0) (Kd.R_base ho1) (Kd.R_base ho2); replace BK359 := kb_ BK359 hb; replace BK360 := kb_ BK360 hb; replace HB := Aside0.mk (below_step oB hb); (try clear ho1); (try clear ho2)) | ((with_reducible refine gate_dst (N := 8) rfl ?_); (try (refine gate_guard (by rfl) ?_; dsimp only)); refine bx_ 8 #[.int .i64 0, .int .i64 0, .int .i64 0, .slice none 0 0, .slice none 0 0, .slice none 0 0, .string (⟨#[]⟩ : ByteArray)] 84 ?_; intro gb383 hg w90 hbox hb; have BK383 := Aside0.mk (hbox); have GW383 := gs_ hg; have NB359_383 := nl_ hg BK359; have NB383_359 := nr_ hg BK359; have NB360_383 := nl_ hg BK360; have NB383_360 := nr_ hg BK360; replace HO_360000 := beS0 HO_360000 hb; replace HO374 := kr_ HO374 hb; replace HO377 := kr_ HO377 hb; replace HO380 := kr_ HO380 hb; replace BK359 := kb_ BK359 hb; replace BK360 := kb_ BK360 hb; replace HB := Aside0.mk (below_step oB hb); clear hb hbox hg; have hnb91 := NB383_359.out; have hnc91 := NB359_383.out; have hnb92 := NB383_360.out; have hnc92 := NB360_383.out; obtain ⟨⟨_, _, _, _, _, _, _⟩, _, _, _, _, _, _, _⟩ := z7 BK383; obtain ⟨Ao94, co94, eo94⟩ := Kd.R_slice HO374.out; subst eo94; obtain ⟨Ao95, co95, eo95⟩ := Kd.R_slice HO377.out; subst eo95; obtain ⟨Ao96, co96, eo96⟩ := Kd.R_slice HO380.out; subst eo96) | ((with_reducible refine gate_callee (f := 58) rfl ?_); refine gl_ 39 Tryz.func58 (impl_EntOf.calls kj4 t369 t370 t371 _ _ t372 _ _ t375 _ _ t378 t381 t384 _ (rcR1 HO374 BK383) (ko HO374) (rcR1 HO377 BK383) (ko HO377) (rcR1 HO380 BK383) (ko HO380) A33.out) ?_; rintro e w97 ⟨rfl, hb⟩; refine ⟨_, rfl, ?_⟩; replace HO_360000 := beS1 HO_360000 BK383 hb; replace HO374 := beR1 HO374 BK383 hb; replace HO377 := beR1 HO377 BK383 hb; replace HO380 := beR1 HO380 BK383 hb; replace BK359 := kb_ BK359 hb; replace BK360 := kb_ BK360 hb; replace BK383 := kp_ #[.int .i64 t369, .int .i64 t370, .int .i64 t371, .slice Ao94 t372.length co94, .slice Ao95 t375.length co95, .slice Ao96 t378.length co96, .string t381] BK383 hb; replace HB := Aside0.mk (below_step oB hb); (try clear hk); obtain ⟨⟨_, _⟩, _, _⟩ := z2 BK359; obtain ⟨⟨_, _⟩, _, _⟩ := z2 BK360))
      refine bodyPost_ret (results_ct rfl _ _ gb360 26 #[.slice Ao11 t361.length co11, .int .i64 t364] (0, 0) _ rfl (oP BK360) Tryz.underlying26 rfl (by kernel_rfl)) rfl ?_
      exact ⟨_, oE, by (with_reducible repeat (first | apply Kd.S_alloc | apply Kd.S_drewN | apply Kd.S_drew)); exact Kd.S_mono (Kd.S_far (p := ⟨gb360, 1, none⟩) (Kd.S_far (p := ⟨gb360, 0, none⟩) (Kd.S_types HO_360000.out BK360.out (by decide)) (fun _ hk => hk.2) (.slice Ao11 t361.length co11)) (fun _ hk => hk.2) (.int .i64 t364)) (fun _ hk => trivial), oB⟩
    ·rw [if_neg c32] at H
     have c32b0 : (t382 == 0) = false := beq_eq_false_iff_ne.mpr c32
     have c32b1 : (t382 != 0) = true := bne_iff_ne.mpr c32
     simp only [Option.some.injEq, Prod.mk.injEq] at H
     obtain ⟨rfl, rfl, rfl⟩ := H
     have hnb100 := NB359_360.out
     have hnc100 := NB360_359.out
     obtain ⟨⟨_, _⟩, _, _⟩ := z2 BK359
     go_wp2_with (first | ((with_reducible refine gate_callee (f := 57) rfl ?_); refine gl_ 26 Tryz.func57 (impl_spotOf.calls kj4 _ _ t361 t364 a1 t369 t370 t371 t372 t375 t378 t381 t382 _ (rcS0 HO_360000) (rnS HO_360000) A31.out) ?_; rintro e w102 ⟨v373, v376, v379, rfl, ho0, ho1, ho2, hb⟩; refine ⟨_, rfl, ?_⟩; have HO374 := Aside0.mk (Kd.R_lower ho0 (below_size oB)); have HO377 := Aside0.mk (Kd.R_lower ho1 (below_size oB)); have HO380 := Aside0.mk (Kd.R_lower ho2 (below_size oB)); replace HO_360000 := tdS3 (olS0 HO_360000 hb) (Kd.R_base ho0) (Kd.R_base ho1) (Kd.R_base ho2); replace BK359 := kb_ BK359 hb; replace BK360 := kb_ BK360 hb; replace HB := Aside0.mk (below_step oB hb); (try clear ho1); (try clear ho2)) | ((with_reducible refine gate_dst (N := 8) rfl ?_); (try (refine gate_guard (by rfl) ?_; dsimp only)); refine bx_ 8 #[.int .i64 0, .int .i64 0, .int .i64 0, .slice none 0 0, .slice none 0 0, .slice none 0 0, .string (⟨#[]⟩ : ByteArray)] 84 ?_; intro gb383 hg w103 hbox hb; have BK383 := Aside0.mk (hbox); have GW383 := gs_ hg; have NB359_383 := nl_ hg BK359; have NB383_359 := nr_ hg BK359; have NB360_383 := nl_ hg BK360; have NB383_360 := nr_ hg BK360; replace HO_360000 := beS0 HO_360000 hb; replace HO374 := kr_ HO374 hb; replace HO377 := kr_ HO377 hb; replace HO380 := kr_ HO380 hb; replace BK359 := kb_ BK359 hb; replace BK360 := kb_ BK360 hb; replace HB := Aside0.mk (below_step oB hb); clear hb hbox hg; have hnb104 := NB383_359.out; have hnc104 := NB359_383.out; have hnb105 := NB383_360.out; have hnc105 := NB360_383.out; obtain ⟨⟨_, _, _, _, _, _, _⟩, _, _, _, _, _, _, _⟩ := z7 BK383; obtain ⟨Ao107, co107, eo107⟩ := Kd.R_slice HO374.out; subst eo107; obtain ⟨Ao108, co108, eo108⟩ := Kd.R_slice HO377.out; subst eo108; obtain ⟨Ao109, co109, eo109⟩ := Kd.R_slice HO380.out; subst eo109; obtain ⟨⟨_, _⟩, _, _⟩ := z2 BK359; obtain ⟨⟨_, _⟩, _, _⟩ := z2 BK360))
     refine bodyPost_ret (results_ct rfl _ _ gb360 26 #[.slice Ao11 t361.length co11, .int .i64 t364] (0, 0) _ rfl (oP BK360) Tryz.underlying26 rfl (by kernel_rfl)) rfl ?_
     exact ⟨_, oE, by (with_reducible repeat (first | apply Kd.S_alloc | apply Kd.S_drewN | apply Kd.S_drew)); exact Kd.S_mono (Kd.S_far (p := ⟨gb360, 1, none⟩) (Kd.S_far (p := ⟨gb360, 0, none⟩) (Kd.S_far (p := ⟨gb383, 6, none⟩) (Kd.S_far (p := ⟨gb383, 5, none⟩) (Kd.S_far (p := ⟨gb383, 4, none⟩) (Kd.S_far (p := ⟨gb383, 3, none⟩) (Kd.S_far (p := ⟨gb383, 2, none⟩) (Kd.S_far (p := ⟨gb383, 1, none⟩) (Kd.S_far (p := ⟨gb383, 0, none⟩) (Kd.S_types (Kd.S_types HO_360000.out BK383.out (by decide)) BK360.out (by decide)) (fun _ hk => hk.1.2) (.int .i64 t369)) (fun _ hk => hk.1.2) (.int .i64 t370)) (fun _ hk => hk.1.2) (.int .i64 t371)) (fun _ hk => hk.1.2) (.slice Ao107 t372.length co107)) (fun _ hk => hk.1.2) (.slice Ao108 t375.length co108)) (fun _ hk => hk.1.2) (.slice Ao109 t378.length co109)) (fun _ hk => hk.1.2) (.string t381)) (fun _ hk => hk.2) (.slice Ao11 t361.length co11)) (fun _ hk => hk.2) (.int .i64 t364)) (fun _ hk => trivial), oB⟩

end Go.Proofs.YtkcfmbggdkkfeaaGreatDoor.P
