-- By this session's own program (wip/myprint.py) out of the translation; Lean checks it.
import Derived.Test.YtkcfmbggdkkfeaaGreatDoorPx0
import Derived.Test.YtkcfmbggdkkfeaaGreatDoorPx2
import Derived.Test.YtkcfmbggdkkfeaaGreatDoorPx3
import Derived.Test.YtkcfmbggdkkfeaaGreatDoorPx6
import Derived.Test.YtkcfmbggdkkfeaaGreatDoorPx8
import Derived.Test.YtkcfmbggdkkfeaaGreatDoorPx11
namespace Go.Proofs.YtkcfmbggdkkfeaaGreatDoor.P
open Go.RowKit Go.Proofs.YtkcfmbggdkkfeaaGreatDoorW.PrintWords Go.Proofs.YtkcfmbggdkkfeaaGreatDoorW.PrintLast Go.Proofs.YtkcfmbggdkkfeaaGreatDoorW.PrintMore
attribute [local go_sem] max2_int min2_int max_two min_two max_three min_three max_four min_four   -- for this text's walks alone
set_option linter.unusedVariables false
set_option linter.unusedSimpArgs false

/-! ### impl_makeAt: function 35 -/
mutual
def impl_makeAt.j0 : Nat → ByteArray → Int → Bool → List (S51) → Int → Option ((List (S51)) × Int × Int)
 | 0, _, _, _, _, _ => none
 | k + 1, x1, x2, x21, x359000, x359001 => if x21 = true then (some (x359000, x359001, 1)) else ((impl_spotOf.f k x359000 x359001 x1).bind fun bt368 => (if bt368.2.2.2.2.2.2.2 = 0 then ((impl_EntOf.f k bt368.1 bt368.2.1 bt368.2.2.1 bt368.2.2.2.1 bt368.2.2.2.2.1 bt368.2.2.2.2.2.1 bt368.2.2.2.2.2.2.1).bind fun t383 => (if t383 = 0 then (if (bt368.2.2.2.2.1.length : Int) = 10 then (impl_makeAt.j1 k x2 true x359000 x359001 bt368.1 bt368.2.1 bt368.2.2.1 bt368.2.2.2.1 bt368.2.2.2.2.1 bt368.2.2.2.2.2.1 bt368.2.2.2.2.2.2.1) else (if (x359000.length : Int) = 30 then (impl_makeAt.j1 k x2 true x359000 x359001 bt368.1 bt368.2.1 bt368.2.2.1 bt368.2.2.2.1 bt368.2.2.2.2.1 bt368.2.2.2.2.2.1 bt368.2.2.2.2.2.2.1) else (impl_makeAt.j1 k x2 (x359001 == 1000) x359000 x359001 bt368.1 bt368.2.1 bt368.2.2.1 bt368.2.2.2.1 bt368.2.2.2.2.1 bt368.2.2.2.2.2.1 bt368.2.2.2.2.2.2.1))) else (some (x359000, x359001, 4)))) else (some (x359000, x359001, bt368.2.2.2.2.2.2.2))))
def impl_makeAt.j1 : Nat → Int → Bool → List (S51) → Int → Int → Int → Int → List Int → List (S65) → List (S71) → ByteArray → Option ((List (S51)) × Int × Int)
 | 0, _, _, _, _, _, _, _, _, _, _, _ => none
 | k + 1, x2, x42, x359000, x359001, x383000, x383001, x383002, x383003, x383004, x383005, x383006 => if x42 = true then (some (x359000, x359001, 5)) else ((impl_spot_enter.f k x383000 x383001 x383002 x383003 x383004 x383005 x383006 x359000 (wrap64 (x359001 + 1)) x359001).bind fun bt385 => ((impl_SetInode.f k bt385.1 bt385.2 x359001 x2 1 ([] : List Int) ([] : List (S65)) ([] : List (S71))).bind fun bt389 => (some (bt389.1, bt389.2, 0))))
end
def impl_makeAt.f (k : Nat) (l0_0 : List (S51)) (a0_1 : Int) (a1 : ByteArray) (a2 : Int) : Option ((List (S51)) × Int × Int) := (impl_copyTab.f k l0_0 a0_1).bind fun bt360 => ((impl_ready.f k bt360.1 bt360.2 (([a1] : List ByteArray))).bind fun t367 => (if t367 = true then (impl_makeAt.j0 k a1 a2 (a1.toList == ([47] : List UInt8)) bt360.1 bt360.2) else (impl_makeAt.j0 k a1 a2 true bt360.1 bt360.2)))
def impl_makeAt.T13 : Bool × List (List Nat × List Nat) := (true, [([], []), ([], []), ([], []), ([2], [2]), ([0, 1, 3], [0, 1, 3]), ([], []), ([4, 5, 4], [4, 5]), ([6, 6, 0, 1, 2, 3, 4, 5, 6], [6]), ([7, 0, 1, 2, 3, 4, 5, 6, 7], [])])
def impl_makeAt.B13 : List Nat := [0, 0, 0, 4, 15, 0, 63, 127, 255]
theorem impl_makeAt.tab13 : rtab .any (opsOf Tryz.f35 13) = impl_makeAt.T13 := by kernel_rfl
theorem impl_makeAt.bits13 : waitsOk impl_makeAt.T13.2 impl_makeAt.B13 = true := by kernel_rfl
set_option maxHeartbeats 8000000 in
set_option maxRecDepth 100000 in
theorem impl_makeAt.calls (k : Nat) (A0_0 : Option Addr) (c0_0 : Nat) (l0_0 : List (S51)) (a0_1 : Int) (a1 : ByteArray) (a2 : Int) (r1 : List (S51)) (r2 : Int) (r3 : Int) (w : World) (hr0_0 : Kd.C k51 w A0_0 l0_0.length l0_0) (hc0_0 : l0_0.length ≤ c0_0) (h : impl_makeAt.f k l0_0 a0_1 a1 a2 = some (r1, r2, r3)) (hG : GOk w := by exact gk_ oB (by first | (with_reducible assumption) | assumption)) :
  Calls Tryz.prog 35 #[.agg #[.slice A0_0 l0_0.length c0_0, .int .i64 a0_1], .string a1, .int .i64 a2] w fun e w' => ∃ v0_ : Value, e = .returned (.tuple #[.agg #[v0_, .int .i64 r2], .int .i64 r3]) ∧ Kd.S k51 51 w' w.heap.size (fun _ => True) v0_ r1 ∧ Below w.heap.size w w' := by
 have HG := Aside0.mk hG
 clear hG
 have hu26 := Tryz.underlying26
 have hu84 := Tryz.underlying84
 have hu51 := Tryz.underlying51
 have HR0_0 := Aside0.mk hr0_0
 have HC0_0 := Aside0.mk hc0_0
 clear hr0_0 hc0_0
 have HB := Aside0.mk (Below.refl w.heap.size w)
 unfold impl_makeAt.f at h
 have H := h
 clear h
 replace H := bA H
 obtain ⟨⟨t360, t363⟩, A4, H⟩ := H
 try dsimp only at H
 have HC5 := Aside0.mk H
 clear H
 go_enter Tryz.func35, Tryz.ntmps35
 go_upto_region 2 with (first | ((with_reducible refine gate_dst (N := 3) rfl ?_); (try (refine gate_guard (by rfl) ?_; dsimp only)); refine bx_ 3 #[.slice A0_0 l0_0.length c0_0, .int .i64 a0_1] 26 ?_; intro gb358 hg w6 hbox hb; have BK358 := Aside0.mk (hbox); have GW358 := gs_ hg; replace HB := Aside0.mk (below_step oB hb); clear hb hbox hg) | ((with_reducible refine gate_dst (N := 6) rfl ?_); (try (refine gate_guard (by rfl) ?_; dsimp only)); refine bx_ 6 #[.slice none 0 0, .int .i64 0] 26 ?_; intro gb359 hg w7 hbox hb; have BK359 := Aside0.mk (hbox); have GW359 := gs_ hg; have NB358_359 := nl_ hg BK358; have NB359_358 := nr_ hg BK358; replace BK358 := kb_ BK358 hb; replace HB := Aside0.mk (below_step oB hb); clear hb hbox hg; have hnb8 := NB358_359.out; have hnc8 := NB359_358.out; obtain ⟨⟨_, _⟩, _, _⟩ := z2 BK358) | ((with_reducible refine gate_callee (f := 45) rfl ?_); refine gl_ 12 Tryz.func45 (impl_copyTab.calls k _ _ l0_0 a0_1 t360 t363 _ (kC HR0_0) HC0_0.out A4.out) ?_; rintro e w10 ⟨v361, rfl, ho0, hb⟩; refine ⟨_, rfl, ?_⟩; have HO362 := Aside0.mk (Kd.S_lower ho0 (below_size oB)); replace BK358 := kb_ BK358 hb; replace BK359 := kb_ BK359 hb; replace HB := Aside0.mk (below_step oB hb); obtain ⟨Ao11, co11, eo11⟩ := Kd.S_slice HO362.out; subst eo11; obtain ⟨⟨_, _⟩, _, _⟩ := z2 BK358))
 (try simp only [Act.put, List.setIfInBounds_toArray, List.set_cons_zero, List.set_cons_succ])
 go_cut [21] (fun v21 wc => ∃ (kq : Nat) (x21_4 : Bool), v21 = .bool x21_4 ∧ Aside0 (impl_makeAt.j0 kq a1 a2 x21_4 t360 t363 = some (r1, r2, r3)) ∧ Aside0 (kq ≤ k) ∧ Aside0 (Kd.S k51 51 wc w.heap.size (fun _ => True) (.slice Ao11 t360.length co11) t360) ∧ Aside0 (wc.heap[gb358]? = some (.cells #[(.slice Ao11 t360.length co11), .int .i64 t363] 26 (0, 0))) ∧ Aside0 (wc.heap[gb359]? = some (.cells #[(.slice none 0 0), .int .i64 0] 26 (0, 0))) ∧ Aside0 (Below w.heap.size w wc))
 case first =>
  have H := HC5.out
  clear HC5
  obtain ⟨y364, hy364⟩ : ∃ y_ : List ByteArray, y_ = (([a1] : List ByteArray)) := ⟨_, rfl⟩
  replace H : ((impl_ready.f k t360 t363 y364).bind fun t367 => (if t367 = true then (impl_makeAt.j0 k a1 a2 (a1.toList == ([47] : List UInt8)) t360 t363) else (impl_makeAt.j0 k a1 a2 true t360 t363))) = some (r1, r2, r3) := by first | (rw [hy364]; with_reducible exact H) | (have H2_ := (Option.bind_some _ _).symm.trans H; rw [hy364]; with_reducible exact H2_) | (have H2_ := (Option.bind_some _ _).symm.trans H; with_reducible exact H2_) | with_reducible exact H | (rw [hy364]; exact H) | exact H
  have Ny364 := Aside0.mk hy364
  clear hy364
  replace H := bA H
  obtain ⟨t367, A13, H⟩ := H
  try dsimp only at H
  replace H := itB H
  rcases H with ⟨rfl, H⟩ | ⟨rfl, H⟩
  ·have H' := Aside0.mk H
   clear H
   have hnb15 := NB358_359.out
   have hnc15 := NB359_358.out
   obtain ⟨⟨_, _⟩, _, _⟩ := z2 BK358
   go_wp2_with (first | ((with_reducible refine gate_dst (N := 15) rfl ?_); (try (refine gate_guard (by rfl) ?_; dsimp only)); refine Kd.R_lit Kd.string _ 9 ?hg (N := 15) ?hd (xs := ([a1] : List ByteArray)) (inner := [.string a1]) (ok := fun _ => True) (okp := fun _ => True) ?hr ?hp (fun _ hk => hk) trivial (Below.refl _ _) (Nat.le_refl _) (by simp) ?_; (case hd => rfl); (case hg => rfl); (case hr => first | (go_simp; done) | (go_simp; rfl)); (case hp => exact (Reps.one (show Kd.M Kd.string _ _ _ a1 [.string a1] from rfl) (Reps.none _ _))); intro v365 w17 ho18 hb hg_ hnew_; clear hg_ hnew_; (first | rw [← Ny364.out] at ho18 | (simp only [Int.reduceToNat] at ho18; rw [← Ny364.out] at ho18)); have HO366 := Aside0.mk (Kd.R_lower ho18 (below_size oB)); replace HO362 := beS1 HO362 BK358 hb; replace BK358 := kp_ #[.slice Ao11 t360.length co11, .int .i64 t363] BK358 hb; replace BK359 := kb_ BK359 hb; replace HB := Aside0.mk (below_step oB hb); clear hb ho18; obtain ⟨Ao19, co19, eo19⟩ := Kd.R_slice HO366.out; subst eo19) | ((with_reducible refine gate_callee (f := 46) rfl ?_); refine gl_ 16 Tryz.func46 (impl_ready.calls k _ _ t360 t363 _ _ y364 true _ (rcS0 HO362) (rnS HO362) (kO HO366) (ko HO366) A13.out) ?_; rintro e w20 ⟨rfl, hb⟩; refine ⟨_, rfl, ?_⟩; replace HO362 := beS0 HO362 hb; replace HO366 := kr_ HO366 hb; replace BK358 := kb_ BK358 hb; replace BK359 := kb_ BK359 hb; replace HB := Aside0.mk (below_step oB hb)))
   go_meet
   case rel => exact ⟨_, ((a1.toList == ([47] : List UInt8))), oS, H', ⟨by first | omega | exact Nat.le_refl _⟩, ⟨by (with_reducible repeat (first | apply Kd.S_alloc | apply Kd.S_drewN | apply Kd.S_drew)); exact HO362.out⟩, ⟨oF BK358⟩, ⟨oF BK359⟩, ⟨oB⟩⟩
  ·have H' := Aside0.mk H
   clear H
   have hnb21 := NB358_359.out
   have hnc21 := NB359_358.out
   obtain ⟨⟨_, _⟩, _, _⟩ := z2 BK358
   go_wp2_with (first | ((with_reducible refine gate_dst (N := 15) rfl ?_); (try (refine gate_guard (by rfl) ?_; dsimp only)); refine Kd.R_lit Kd.string _ 9 ?hg (N := 15) ?hd (xs := ([a1] : List ByteArray)) (inner := [.string a1]) (ok := fun _ => True) (okp := fun _ => True) ?hr ?hp (fun _ hk => hk) trivial (Below.refl _ _) (Nat.le_refl _) (by simp) ?_; (case hd => rfl); (case hg => rfl); (case hr => first | (go_simp; done) | (go_simp; rfl)); (case hp => exact (Reps.one (show Kd.M Kd.string _ _ _ a1 [.string a1] from rfl) (Reps.none _ _))); intro v365 w23 ho24 hb hg_ hnew_; clear hg_ hnew_; (first | rw [← Ny364.out] at ho24 | (simp only [Int.reduceToNat] at ho24; rw [← Ny364.out] at ho24)); have HO366 := Aside0.mk (Kd.R_lower ho24 (below_size oB)); replace HO362 := beS1 HO362 BK358 hb; replace BK358 := kp_ #[.slice Ao11 t360.length co11, .int .i64 t363] BK358 hb; replace BK359 := kb_ BK359 hb; replace HB := Aside0.mk (below_step oB hb); clear hb ho24; obtain ⟨Ao25, co25, eo25⟩ := Kd.R_slice HO366.out; subst eo25) | ((with_reducible refine gate_callee (f := 46) rfl ?_); refine gl_ 16 Tryz.func46 (impl_ready.calls k _ _ t360 t363 _ _ y364 false _ (rcS0 HO362) (rnS HO362) (kO HO366) (ko HO366) A13.out) ?_; rintro e w26 ⟨rfl, hb⟩; refine ⟨_, rfl, ?_⟩; replace HO362 := beS0 HO362 hb; replace HO366 := kr_ HO366 hb; replace BK358 := kb_ BK358 hb; replace BK359 := kb_ BK359 hb; replace HB := Aside0.mk (below_step oB hb)))
   go_meet
   case rel => exact ⟨_, (true), oS, H', ⟨by first | omega | exact Nat.le_refl _⟩, ⟨by (with_reducible repeat (first | apply Kd.S_alloc | apply Kd.S_drewN | apply Kd.S_drew)); exact HO362.out⟩, ⟨oF BK358⟩, ⟨oF BK359⟩, ⟨oB⟩⟩
 case rest =>
  clear HC5
  obtain ⟨kq, x21_4, rfl, HA, HJ4, HO_359000, BK358, BK359, HB⟩ := hcut
  cases kq with
  | zero => exact absurd HA.out (by simp [impl_makeAt.j0])
  | succ kj4 =>
   have H := HA.out
   clear HA
   simp only [impl_makeAt.j0] at H
   replace H := itB H
   rcases H with ⟨rfl, H⟩ | ⟨rfl, H⟩
   ·simp only [Option.some.injEq, Prod.mk.injEq] at H
    obtain ⟨rfl, rfl, rfl⟩ := H
    have hnb28 := NB358_359.out
    have hnc28 := NB359_358.out
    obtain ⟨⟨_, _⟩, _, _⟩ := z2 BK358
    obtain ⟨⟨_, _⟩, _, _⟩ := z2 BK359
    go_wp2
    refine bodyPost_ret (results_ct rfl _ _ gb359 26 #[.slice Ao11 t360.length co11, .int .i64 t363] (0, 0) _ rfl (oP BK359) Tryz.underlying26 rfl (by kernel_rfl)) rfl ?_
    exact ⟨_, oE, by (with_reducible repeat (first | apply Kd.S_alloc | apply Kd.S_drewN | apply Kd.S_drew)); exact Kd.S_mono (Kd.S_far (p := ⟨gb359, 1, none⟩) (Kd.S_far (p := ⟨gb359, 0, none⟩) (Kd.S_types HO_359000.out BK359.out (by decide)) (fun _ hk => hk.2) (.slice Ao11 t360.length co11)) (fun _ hk => hk.2) (.int .i64 t363)) (fun _ hk => trivial), oB⟩
   ·replace H := bA H
    obtain ⟨⟨t368, t369, t370, t371, t374, t377, t380, t381⟩, A31, H⟩ := H
    try dsimp only at H
    by_cases c32 : t381 = 0
    ·rw [if_pos c32] at H
     have c32b0 : (t381 == 0) = true := beq_iff_eq.mpr c32
     have c32b1 : (t381 != 0) = false := bne_eq_false_iff_eq.mpr c32
     clear c32
     replace H := bA H
     obtain ⟨t383, A33, H⟩ := H
     try dsimp only at H
     by_cases c34 : t383 = 0
     ·rw [if_pos c34] at H
      have c34b0 : (t383 == 0) = true := beq_iff_eq.mpr c34
      have c34b1 : (t383 != 0) = false := bne_eq_false_iff_eq.mpr c34
      clear c34
      have HC35 := Aside0.mk H
      clear H
      have hnb36 := NB358_359.out
      have hnc36 := NB359_358.out
      obtain ⟨⟨_, _⟩, _, _⟩ := z2 BK358
      go_upto_region 9 with (first | ((with_reducible refine gate_callee (f := 57) rfl ?_); refine gl_ 26 Tryz.func57 (impl_spotOf.calls kj4 _ _ t360 t363 a1 t368 t369 t370 t371 t374 t377 t380 t381 _ (rcS0 HO_359000) (rnS HO_359000) A31.out) ?_; rintro e w38 ⟨v372, v375, v378, rfl, ho0, ho1, ho2, hb⟩; refine ⟨_, rfl, ?_⟩; have HO373 := Aside0.mk (Kd.R_lower ho0 (below_size oB)); have HO376 := Aside0.mk (Kd.R_lower ho1 (below_size oB)); have HO379 := Aside0.mk (Kd.R_lower ho2 (below_size oB)); replace HO_359000 := tdS3 (olS0 HO_359000 hb) (Kd.R_base ho0) (Kd.R_base ho1) (Kd.R_base ho2); replace BK358 := kb_ BK358 hb; replace BK359 := kb_ BK359 hb; replace HB := Aside0.mk (below_step oB hb); (try clear ho1); (try clear ho2)) | ((with_reducible refine gate_dst (N := 8) rfl ?_); (try (refine gate_guard (by rfl) ?_; dsimp only)); refine bx_ 8 #[.int .i64 0, .int .i64 0, .int .i64 0, .slice none 0 0, .slice none 0 0, .slice none 0 0, .string (⟨#[]⟩ : ByteArray)] 84 ?_; intro gb382 hg w39 hbox hb; have BK382 := Aside0.mk (hbox); have GW382 := gs_ hg; have NB358_382 := nl_ hg BK358; have NB382_358 := nr_ hg BK358; have NB359_382 := nl_ hg BK359; have NB382_359 := nr_ hg BK359; replace HO_359000 := beS0 HO_359000 hb; replace HO373 := kr_ HO373 hb; replace HO376 := kr_ HO376 hb; replace HO379 := kr_ HO379 hb; replace BK358 := kb_ BK358 hb; replace BK359 := kb_ BK359 hb; replace HB := Aside0.mk (below_step oB hb); clear hb hbox hg; have hnb40 := NB382_358.out; have hnc40 := NB358_382.out; have hnb41 := NB382_359.out; have hnc41 := NB359_382.out; obtain ⟨⟨_, _, _, _, _, _, _⟩, _, _, _, _, _, _, _⟩ := z7 BK382; obtain ⟨Ao43, co43, eo43⟩ := Kd.R_slice HO373.out; subst eo43; obtain ⟨Ao44, co44, eo44⟩ := Kd.R_slice HO376.out; subst eo44; obtain ⟨Ao45, co45, eo45⟩ := Kd.R_slice HO379.out; subst eo45) | ((with_reducible refine gate_callee (f := 58) rfl ?_); refine gl_ 39 Tryz.func58 (impl_EntOf.calls kj4 t368 t369 t370 _ _ t371 _ _ t374 _ _ t377 t380 t383 _ (rcR1 HO373 BK382) (ko HO373) (rcR1 HO376 BK382) (ko HO376) (rcR1 HO379 BK382) (ko HO379) A33.out) ?_; rintro e w46 ⟨rfl, hb⟩; refine ⟨_, rfl, ?_⟩; replace HO_359000 := beS1 HO_359000 BK382 hb; replace HO373 := beR1 HO373 BK382 hb; replace HO376 := beR1 HO376 BK382 hb; replace HO379 := beR1 HO379 BK382 hb; replace BK358 := kb_ BK358 hb; replace BK359 := kb_ BK359 hb; replace BK382 := kp_ #[.int .i64 t368, .int .i64 t369, .int .i64 t370, .slice Ao43 t371.length co43, .slice Ao44 t374.length co44, .slice Ao45 t377.length co45, .string t380] BK382 hb; replace HB := Aside0.mk (below_step oB hb); (try clear hk)))
      (try simp only [Act.put, List.setIfInBounds_toArray, List.set_cons_zero, List.set_cons_succ])
      go_cut [42] (fun v42 wc => ∃ (kq : Nat) (x42_34 : Bool), v42 = .bool x42_34 ∧ Aside0 (impl_makeAt.j1 kq a2 x42_34 t360 t363 t368 t369 t370 t371 t374 t377 t380 = some (r1, r2, r3)) ∧ Aside0 (kq ≤ kj4) ∧ Aside0 (Kd.S k51 51 wc w.heap.size (fun k_ => some k_ ≠ ((.slice Ao43 t371.length co43) : Value).ownBlock ∧ some k_ ≠ ((.slice Ao44 t374.length co44) : Value).ownBlock ∧ some k_ ≠ ((.slice Ao45 t377.length co45) : Value).ownBlock) (.slice Ao11 t360.length co11) t360) ∧ Aside0 (Kd.R (Kd.int .u8) 5 wc w.heap.size (fun _ => True) (.slice Ao43 t371.length co43) t371) ∧ Aside0 (Kd.R k65 65 wc w.heap.size (fun _ => True) (.slice Ao44 t374.length co44) t374) ∧ Aside0 (Kd.R k71 71 wc w.heap.size (fun _ => True) (.slice Ao45 t377.length co45) t377) ∧ Aside0 (wc.heap[gb358]? = some (.cells #[(.slice Ao11 t360.length co11), .int .i64 t363] 26 (0, 0))) ∧ Aside0 (wc.heap[gb359]? = some (.cells #[(.slice none 0 0), .int .i64 0] 26 (0, 0))) ∧ Aside0 (wc.heap[gb382]? = some (.cells #[.int .i64 t368, .int .i64 t369, .int .i64 t370, (.slice Ao43 t371.length co43), (.slice Ao44 t374.length co44), (.slice Ao45 t377.length co45), .string t380] 84 (0, 0))) ∧ Aside0 (Below w.heap.size w wc))
      case first =>
       have H := HC35.out
       clear HC35
       by_cases c47 : (t374.length : Int) = 10
       ·rw [if_pos c47] at H
        have c47b0 : ((t374.length : Int) == 10) = true := beq_iff_eq.mpr c47
        have c47b1 : ((t374.length : Int) != 10) = false := bne_eq_false_iff_eq.mpr c47
        clear c47
        (first | rw [c47b0] | rw [c47b2] | (simp only [i64_w, i32_w]; rw [c47b0]) | skip)
        have H' := Aside0.mk H
        clear H
        have hnb48 := NB382_358.out
        have hnc48 := NB358_382.out
        have hnb49 := NB382_359.out
        have hnc49 := NB359_382.out
        obtain ⟨⟨_, _, _, _, _, _, _⟩, _, _, _, _, _, _, _⟩ := z7 BK382
        go_wp2
        go_meet
        case rel => exact ⟨_, (true), oS, H', ⟨by have := HJ4.out; first | omega | exact Nat.le_refl _⟩, ⟨by (with_reducible repeat (first | apply Kd.S_alloc | apply Kd.S_drewN | apply Kd.S_drew)); exact Kd.S_mono HO_359000.out (fun _ hk => ⟨hk.1.1.2, ⟨hk.1.2, hk.2⟩⟩)⟩, ⟨oR HO373⟩, ⟨oR HO376⟩, ⟨oR HO379⟩, ⟨oF BK358⟩, ⟨oF BK359⟩, ⟨oF BK382⟩, ⟨oB⟩⟩
       ·rw [if_neg c47] at H
        have c47b0 : ((t374.length : Int) == 10) = false := beq_eq_false_iff_ne.mpr c47
        have c47b1 : ((t374.length : Int) != 10) = true := bne_iff_ne.mpr c47
        (first | rw [c47b0] | rw [c47b2] | (simp only [i64_w, i32_w]; rw [c47b0]) | skip)
        by_cases c51 : (t360.length : Int) = 30
        ·rw [if_pos c51] at H
         have c51b0 : ((t360.length : Int) == 30) = true := beq_iff_eq.mpr c51
         have c51b1 : ((t360.length : Int) != 30) = false := bne_eq_false_iff_eq.mpr c51
         clear c51
         have H' := Aside0.mk H
         clear H
         have hnb52 := NB382_358.out
         have hnc52 := NB358_382.out
         have hnb53 := NB382_359.out
         have hnc53 := NB359_382.out
         obtain ⟨⟨_, _, _, _, _, _, _⟩, _, _, _, _, _, _, _⟩ := z7 BK382
         have hnb55 := NB358_359.out
         have hnc55 := NB359_358.out
         obtain ⟨⟨_, _⟩, _, _⟩ := z2 BK358
         go_wp2
         go_meet
         case rel => exact ⟨_, (true), oS, H', ⟨by have := HJ4.out; first | omega | exact Nat.le_refl _⟩, ⟨by (with_reducible repeat (first | apply Kd.S_alloc | apply Kd.S_drewN | apply Kd.S_drew)); exact Kd.S_mono HO_359000.out (fun _ hk => ⟨hk.1.1.2, ⟨hk.1.2, hk.2⟩⟩)⟩, ⟨oR HO373⟩, ⟨oR HO376⟩, ⟨oR HO379⟩, ⟨oF BK358⟩, ⟨oF BK359⟩, ⟨oF BK382⟩, ⟨oB⟩⟩
        ·rw [if_neg c51] at H
         have c51b0 : ((t360.length : Int) == 30) = false := beq_eq_false_iff_ne.mpr c51
         have c51b1 : ((t360.length : Int) != 30) = true := bne_iff_ne.mpr c51
         have H' := Aside0.mk H
         clear H
         have hnb57 := NB382_358.out
         have hnc57 := NB358_382.out
         have hnb58 := NB382_359.out
         have hnc58 := NB359_382.out
         obtain ⟨⟨_, _, _, _, _, _, _⟩, _, _, _, _, _, _, _⟩ := z7 BK382
         have hnb60 := NB358_359.out
         have hnc60 := NB359_358.out
         obtain ⟨⟨_, _⟩, _, _⟩ := z2 BK358
         go_wp2
         go_meet
         case rel => exact ⟨_, ((t363 == 1000)), oS, H', ⟨by have := HJ4.out; first | omega | exact Nat.le_refl _⟩, ⟨by (with_reducible repeat (first | apply Kd.S_alloc | apply Kd.S_drewN | apply Kd.S_drew)); exact Kd.S_mono HO_359000.out (fun _ hk => ⟨hk.1.1.2, ⟨hk.1.2, hk.2⟩⟩)⟩, ⟨oR HO373⟩, ⟨oR HO376⟩, ⟨oR HO379⟩, ⟨oF BK358⟩, ⟨oF BK359⟩, ⟨oF BK382⟩, ⟨oB⟩⟩
      case rest =>
       clear HC35
       try clear c32
       try clear c32b0
       try clear c32b1
       try clear c34
       obtain ⟨kq, x42_34, rfl, HA, HJ34, HO_359000, HO_383003, HO_383004, HO_383005, BK358, BK359, BK382, HB⟩ := hcut
       cases kq with
       | zero => exact absurd HA.out (by simp [impl_makeAt.j1])
       | succ kj34 =>
        have H := HA.out
        clear HA
        simp only [impl_makeAt.j1] at H
        replace H := itB H
        rcases H with ⟨rfl, H⟩ | ⟨rfl, H⟩
        ·simp only [Option.some.injEq, Prod.mk.injEq] at H
         obtain ⟨rfl, rfl, rfl⟩ := H
         have hnb63 := NB358_359.out
         have hnc63 := NB359_358.out
         have hnb64 := NB358_382.out
         have hnc64 := NB382_358.out
         obtain ⟨⟨_, _⟩, _, _⟩ := z2 BK358
         have hnb66 := NB359_382.out
         have hnc66 := NB382_359.out
         obtain ⟨⟨_, _⟩, _, _⟩ := z2 BK359
         go_wp2
         refine bodyPost_ret (results_ct rfl _ _ gb359 26 #[.slice Ao11 t360.length co11, .int .i64 t363] (0, 0) _ rfl (oP BK359) Tryz.underlying26 rfl (by kernel_rfl)) rfl ?_
         exact ⟨_, oE, by (with_reducible repeat (first | apply Kd.S_alloc | apply Kd.S_drewN | apply Kd.S_drew)); exact Kd.S_mono (Kd.S_far (p := ⟨gb359, 1, none⟩) (Kd.S_far (p := ⟨gb359, 0, none⟩) (Kd.S_types HO_359000.out BK359.out (by decide)) (fun _ hk => hk.2) (.slice Ao11 t360.length co11)) (fun _ hk => hk.2) (.int .i64 t363)) (fun _ hk => trivial), oB⟩
        ·replace H := bA H
         obtain ⟨⟨t385, t388⟩, A68, H⟩ := H
         try dsimp only at H
         replace H := bA H
         obtain ⟨⟨t389, t392⟩, A69, H⟩ := H
         try dsimp only at H
         simp only [Option.some.injEq, Prod.mk.injEq] at H
         obtain ⟨rfl, rfl, rfl⟩ := H
         have hnb70 := NB358_359.out
         have hnc70 := NB359_358.out
         have hnb71 := NB358_382.out
         have hnc71 := NB382_358.out
         obtain ⟨⟨_, _⟩, _, _⟩ := z2 BK358
         try go_wp2_with (first | ((with_reducible refine gate_dst (N := 10) rfl ?_); (try (refine gate_guard (by rfl) ?_; dsimp only)); refine bx_ 10 #[.int .i64 0, .int .i64 0, .int .i64 0, .slice none 0 0, .slice none 0 0, .slice none 0 0] 51 ?_; intro gb384 hg w73 hbox hb; have BK384 := Aside0.mk (hbox); have GW384 := gs_ hg; have NB358_384 := nl_ hg BK358; have NB384_358 := nr_ hg BK358; have NB359_384 := nl_ hg BK359; have NB384_359 := nr_ hg BK359; have NB382_384 := nl_ hg BK382; have NB384_382 := nr_ hg BK382; replace HO_359000 := Aside0.mk (Kd.S_below (Kd.S_elderB (nS0 HO_359000) gb384 (Nat.le_of_eq hg.symm)) hb); replace HO_383003 := kr_ HO_383003 hb; replace HO_383004 := kr_ HO_383004 hb; replace HO_383005 := kr_ HO_383005 hb; replace BK358 := kb_ BK358 hb; replace BK359 := kb_ BK359 hb; replace BK382 := kb_ BK382 hb; replace HB := Aside0.mk (below_step oB hb); clear hb hbox hg; have hnb74 := NB384_358.out; have hnc74 := NB358_384.out; have hnb75 := NB384_359.out; have hnc75 := NB359_384.out; have hnb76 := NB384_382.out; have hnc76 := NB382_384.out; obtain ⟨⟨_, _, _, _, _, _⟩, _, _, _, _, _, _⟩ := z6 BK384; obtain ⟨⟨_, _⟩, _, _⟩ := z2 BK358))
         have n0_ : Aside0 (Kd.S k51 51 (((((((w73.setCell ⟨gb384, 0, none⟩ (.int .i64 t363)).setCell ⟨gb384, 1, none⟩ (.int .i64 a2)).setCell ⟨gb384, 2, none⟩ (.int .i64 1)).setCell ⟨gb384, 3, none⟩ (.slice none 0 0)).setCell ⟨gb384, 4, none⟩ (.slice none 0 0)).setCell ⟨gb384, 5, none⟩ (.slice none 0 0)).setCell ⟨gb358, 1, none⟩ (.int .i64 (wrap64 (t363 + 1)))) w.heap.size (fun k_ => some k_ ≠ (.slice Ao43 t371.length co43 : Value).ownBlock ∧ some k_ ≠ (.slice Ao44 t374.length co44 : Value).ownBlock ∧ some k_ ≠ (.slice Ao45 t377.length co45 : Value).ownBlock ∧ k_ ≠ gb384) (.slice Ao11 t360.length co11) t360) := ⟨by (with_reducible repeat (first | apply Kd.S_alloc | apply Kd.S_drewN | apply Kd.S_drew)); exact Kd.S_mono (Kd.S_far (p := ⟨gb358, 1, none⟩) (Kd.S_far (p := ⟨gb384, 5, none⟩) (Kd.S_far (p := ⟨gb384, 4, none⟩) (Kd.S_far (p := ⟨gb384, 3, none⟩) (Kd.S_far (p := ⟨gb384, 2, none⟩) (Kd.S_far (p := ⟨gb384, 1, none⟩) (Kd.S_far (p := ⟨gb384, 0, none⟩) (Kd.S_types (Kd.S_mono HO_359000.out (fun k_ hk => (⟨hk, hk.2⟩ : _ ∧ k_ ≠ gb384))) BK358.out (by decide)) (fun _ hk => hk.1.2) (.int .i64 t363)) (fun _ hk => hk.1.2) (.int .i64 a2)) (fun _ hk => hk.1.2) (.int .i64 1)) (fun _ hk => hk.1.2) (.slice none 0 0)) (fun _ hk => hk.1.2) (.slice none 0 0)) (fun _ hk => hk.1.2) (.slice none 0 0)) (fun _ hk => hk.2) (.int .i64 (wrap64 (t363 + 1)))) (fun _ hk => ⟨hk.1.1.1.1, ⟨hk.1.1.1.2.1, ⟨hk.1.1.1.2.2, hk.1.1.2⟩⟩⟩)⟩
         have n1_ : Aside0 (Kd.R (Kd.int .u8) 5 (((((((w73.setCell ⟨gb384, 0, none⟩ (.int .i64 t363)).setCell ⟨gb384, 1, none⟩ (.int .i64 a2)).setCell ⟨gb384, 2, none⟩ (.int .i64 1)).setCell ⟨gb384, 3, none⟩ (.slice none 0 0)).setCell ⟨gb384, 4, none⟩ (.slice none 0 0)).setCell ⟨gb384, 5, none⟩ (.slice none 0 0)).setCell ⟨gb358, 1, none⟩ (.int .i64 (wrap64 (t363 + 1)))) w.heap.size (fun _ => True) (.slice Ao43 t371.length co43) t371) := ⟨by (with_reducible repeat (first | apply Kd.R_alloc | apply Kd.R_drewN | apply Kd.R_drew)); exact Kd.R_mono (Kd.R_far (p := ⟨gb358, 1, none⟩) (Kd.R_far (p := ⟨gb384, 5, none⟩) (Kd.R_far (p := ⟨gb384, 4, none⟩) (Kd.R_far (p := ⟨gb384, 3, none⟩) (Kd.R_far (p := ⟨gb384, 2, none⟩) (Kd.R_far (p := ⟨gb384, 1, none⟩) (Kd.R_far (p := ⟨gb384, 0, none⟩) (Kd.R_types (Kd.R_types HO_383003.out BK384.out (by decide)) BK358.out (by decide)) (fun _ hk => hk.1.2) (.int .i64 t363)) (fun _ hk => hk.1.2) (.int .i64 a2)) (fun _ hk => hk.1.2) (.int .i64 1)) (fun _ hk => hk.1.2) (.slice none 0 0)) (fun _ hk => hk.1.2) (.slice none 0 0)) (fun _ hk => hk.1.2) (.slice none 0 0)) (fun _ hk => hk.2) (.int .i64 (wrap64 (t363 + 1)))) (fun _ hk => trivial)⟩
         have n2_ : Aside0 (Kd.R k65 65 (((((((w73.setCell ⟨gb384, 0, none⟩ (.int .i64 t363)).setCell ⟨gb384, 1, none⟩ (.int .i64 a2)).setCell ⟨gb384, 2, none⟩ (.int .i64 1)).setCell ⟨gb384, 3, none⟩ (.slice none 0 0)).setCell ⟨gb384, 4, none⟩ (.slice none 0 0)).setCell ⟨gb384, 5, none⟩ (.slice none 0 0)).setCell ⟨gb358, 1, none⟩ (.int .i64 (wrap64 (t363 + 1)))) w.heap.size (fun _ => True) (.slice Ao44 t374.length co44) t374) := ⟨by (with_reducible repeat (first | apply Kd.R_alloc | apply Kd.R_drewN | apply Kd.R_drew)); exact Kd.R_mono (Kd.R_far (p := ⟨gb358, 1, none⟩) (Kd.R_far (p := ⟨gb384, 5, none⟩) (Kd.R_far (p := ⟨gb384, 4, none⟩) (Kd.R_far (p := ⟨gb384, 3, none⟩) (Kd.R_far (p := ⟨gb384, 2, none⟩) (Kd.R_far (p := ⟨gb384, 1, none⟩) (Kd.R_far (p := ⟨gb384, 0, none⟩) (Kd.R_types (Kd.R_types HO_383004.out BK384.out (by decide)) BK358.out (by decide)) (fun _ hk => hk.1.2) (.int .i64 t363)) (fun _ hk => hk.1.2) (.int .i64 a2)) (fun _ hk => hk.1.2) (.int .i64 1)) (fun _ hk => hk.1.2) (.slice none 0 0)) (fun _ hk => hk.1.2) (.slice none 0 0)) (fun _ hk => hk.1.2) (.slice none 0 0)) (fun _ hk => hk.2) (.int .i64 (wrap64 (t363 + 1)))) (fun _ hk => trivial)⟩
         have n3_ : Aside0 (Kd.R k71 71 (((((((w73.setCell ⟨gb384, 0, none⟩ (.int .i64 t363)).setCell ⟨gb384, 1, none⟩ (.int .i64 a2)).setCell ⟨gb384, 2, none⟩ (.int .i64 1)).setCell ⟨gb384, 3, none⟩ (.slice none 0 0)).setCell ⟨gb384, 4, none⟩ (.slice none 0 0)).setCell ⟨gb384, 5, none⟩ (.slice none 0 0)).setCell ⟨gb358, 1, none⟩ (.int .i64 (wrap64 (t363 + 1)))) w.heap.size (fun _ => True) (.slice Ao45 t377.length co45) t377) := ⟨by (with_reducible repeat (first | apply Kd.R_alloc | apply Kd.R_drewN | apply Kd.R_drew)); exact Kd.R_mono (Kd.R_far (p := ⟨gb358, 1, none⟩) (Kd.R_far (p := ⟨gb384, 5, none⟩) (Kd.R_far (p := ⟨gb384, 4, none⟩) (Kd.R_far (p := ⟨gb384, 3, none⟩) (Kd.R_far (p := ⟨gb384, 2, none⟩) (Kd.R_far (p := ⟨gb384, 1, none⟩) (Kd.R_far (p := ⟨gb384, 0, none⟩) (Kd.R_types (Kd.R_types HO_383005.out BK384.out (by decide)) BK358.out (by decide)) (fun _ hk => hk.1.2) (.int .i64 t363)) (fun _ hk => hk.1.2) (.int .i64 a2)) (fun _ hk => hk.1.2) (.int .i64 1)) (fun _ hk => hk.1.2) (.slice none 0 0)) (fun _ hk => hk.1.2) (.slice none 0 0)) (fun _ hk => hk.1.2) (.slice none 0 0)) (fun _ hk => hk.2) (.int .i64 (wrap64 (t363 + 1)))) (fun _ hk => trivial)⟩
         have n4_ : Aside0 ((((((((w73.setCell ⟨gb384, 0, none⟩ (.int .i64 t363)).setCell ⟨gb384, 1, none⟩ (.int .i64 a2)).setCell ⟨gb384, 2, none⟩ (.int .i64 1)).setCell ⟨gb384, 3, none⟩ (.slice none 0 0)).setCell ⟨gb384, 4, none⟩ (.slice none 0 0)).setCell ⟨gb384, 5, none⟩ (.slice none 0 0)).setCell ⟨gb358, 1, none⟩ (.int .i64 (wrap64 (t363 + 1)))).heap[gb358]? = some (.cells #[.slice Ao11 t360.length co11, .int .i64 (wrap64 (t363 + 1))] 26 (0, 0))) := ⟨oP BK358⟩
         have n5_ : Aside0 ((((((((w73.setCell ⟨gb384, 0, none⟩ (.int .i64 t363)).setCell ⟨gb384, 1, none⟩ (.int .i64 a2)).setCell ⟨gb384, 2, none⟩ (.int .i64 1)).setCell ⟨gb384, 3, none⟩ (.slice none 0 0)).setCell ⟨gb384, 4, none⟩ (.slice none 0 0)).setCell ⟨gb384, 5, none⟩ (.slice none 0 0)).setCell ⟨gb358, 1, none⟩ (.int .i64 (wrap64 (t363 + 1)))).heap[gb359]? = some (.cells #[.slice none 0 0, .int .i64 0] 26 (0, 0))) := ⟨oF BK359⟩
         have n6_ : Aside0 ((((((((w73.setCell ⟨gb384, 0, none⟩ (.int .i64 t363)).setCell ⟨gb384, 1, none⟩ (.int .i64 a2)).setCell ⟨gb384, 2, none⟩ (.int .i64 1)).setCell ⟨gb384, 3, none⟩ (.slice none 0 0)).setCell ⟨gb384, 4, none⟩ (.slice none 0 0)).setCell ⟨gb384, 5, none⟩ (.slice none 0 0)).setCell ⟨gb358, 1, none⟩ (.int .i64 (wrap64 (t363 + 1)))).heap[gb382]? = some (.cells #[.int .i64 t368, .int .i64 t369, .int .i64 t370, .slice Ao43 t371.length co43, .slice Ao44 t374.length co44, .slice Ao45 t377.length co45, .string t380] 84 (0, 0))) := ⟨oF BK382⟩
         have n7_ : Aside0 ((((((((w73.setCell ⟨gb384, 0, none⟩ (.int .i64 t363)).setCell ⟨gb384, 1, none⟩ (.int .i64 a2)).setCell ⟨gb384, 2, none⟩ (.int .i64 1)).setCell ⟨gb384, 3, none⟩ (.slice none 0 0)).setCell ⟨gb384, 4, none⟩ (.slice none 0 0)).setCell ⟨gb384, 5, none⟩ (.slice none 0 0)).setCell ⟨gb358, 1, none⟩ (.int .i64 (wrap64 (t363 + 1)))).heap[gb384]? = some (.cells #[.int .i64 t363, .int .i64 a2, .int .i64 1, .slice none 0 0, .slice none 0 0, .slice none 0 0] 51 (0, 0))) := ⟨oP BK384⟩
         have n8_ : Aside0 (Below w.heap.size w (((((((w73.setCell ⟨gb384, 0, none⟩ (.int .i64 t363)).setCell ⟨gb384, 1, none⟩ (.int .i64 a2)).setCell ⟨gb384, 2, none⟩ (.int .i64 1)).setCell ⟨gb384, 3, none⟩ (.slice none 0 0)).setCell ⟨gb384, 4, none⟩ (.slice none 0 0)).setCell ⟨gb384, 5, none⟩ (.slice none 0 0)).setCell ⟨gb358, 1, none⟩ (.int .i64 (wrap64 (t363 + 1))))) := ⟨oB⟩
         (try clear HO_359000)
         (try clear HO_383003)
         (try clear HO_383004)
         (try clear HO_383005)
         (try clear BK358)
         (try clear BK359)
         (try clear BK382)
         (try clear BK384)
         (try clear HB)
         generalize (((((((w73.setCell ⟨gb384, 0, none⟩ (.int .i64 t363)).setCell ⟨gb384, 1, none⟩ (.int .i64 a2)).setCell ⟨gb384, 2, none⟩ (.int .i64 1)).setCell ⟨gb384, 3, none⟩ (.slice none 0 0)).setCell ⟨gb384, 4, none⟩ (.slice none 0 0)).setCell ⟨gb384, 5, none⟩ (.slice none 0 0)).setCell ⟨gb358, 1, none⟩ (.int .i64 (wrap64 (t363 + 1)))) = w79 at n0_ n1_ n2_ n3_ n4_ n5_ n6_ n7_ n8_ ⊢
         have HO_359000 := n0_
         have HO_383003 := n1_
         have HO_383004 := n2_
         have HO_383005 := n3_
         have BK358 := n4_
         have BK359 := n5_
         have BK382 := n6_
         have BK384 := n7_
         have HB := n8_
         clear n0_ n1_ n2_ n3_ n4_ n5_ n6_ n7_ n8_
         replace HO_359000 := Aside0.mk (Kd.S_drew HO_359000.out)
         replace HO_383003 := Aside0.mk (Kd.R_drew HO_383003.out)
         replace HO_383004 := Aside0.mk (Kd.R_drew HO_383004.out)
         replace HO_383005 := Aside0.mk (Kd.R_drew HO_383005.out)
         replace BK358 := Aside0.mk (blk_drew BK358.out)
         replace BK359 := Aside0.mk (blk_drew BK359.out)
         replace BK382 := Aside0.mk (blk_drew BK382.out)
         replace BK384 := Aside0.mk (blk_drew BK384.out)
         replace HB := Aside0.mk (below_drew1 HB.out)
         refine st_ 9 (fun w' => w'.cell? ⟨gb382, 0, none⟩ = some (.int .i64 t368) ∧ w'.cell? ⟨gb382, 1, none⟩ = some (.int .i64 t369) ∧ w'.cell? ⟨gb382, 2, none⟩ = some (.int .i64 t370) ∧ w'.cell? ⟨gb382, 3, none⟩ = some (.slice Ao43 t371.length co43) ∧ w'.cell? ⟨gb382, 4, none⟩ = some (.slice Ao44 t374.length co44) ∧ w'.cell? ⟨gb382, 5, none⟩ = some (.slice Ao45 t377.length co45) ∧ w'.cell? ⟨gb382, 6, none⟩ = some (.string t380) ∧ w'.cell? ⟨gb358, 0, none⟩ = some (.slice Ao11 t360.length co11) ∧ w'.cell? ⟨gb358, 1, none⟩ = some (.int .i64 (wrap64 (t363 + 1))) ∧ w'.cell? ⟨gb384, 0, none⟩ = some (.int .i64 t363) ∧ w'.cell? ⟨gb384, 1, none⟩ = some (.int .i64 a2) ∧ w'.cell? ⟨gb384, 2, none⟩ = some (.int .i64 1) ∧ w'.cell? ⟨gb384, 3, none⟩ = some (.slice none 0 0) ∧ w'.cell? ⟨gb384, 4, none⟩ = some (.slice none 0 0) ∧ w'.cell? ⟨gb384, 5, none⟩ = some (.slice none 0 0)) impl_makeAt.tab13 impl_makeAt.bits13 oH (fun hHeld HT_ HW_ => ?_)
         generalize w79.drew = w80 at HO_359000 HO_383003 HO_383004 HO_383005 BK358 BK359 BK382 BK384 HB hHeld ⊢
         refine pu_ 2 70 HT_ ?_
         refine ta_ 0 68 HT_ HW_ hHeld ?_
         refine ta_ 1 69 HT_ HW_ hHeld ?_
         refine ta_ 3 71 HT_ HW_ hHeld ?_
         refine ta_ 5 73 HT_ HW_ hHeld ?_
         refine on_ 4 72 HT_ (fun K hK => ?_)
         refine gr_ 72 Tryz.func59 (impl_spot_enter.calls kj34 t368 t369 t370 _ _ t371 _ _ t374 _ _ t377 t380 _ _ t360 (wrap64 (t363 + 1)) t363 t385 t388 _ (kO HO_383003) (ko HO_383003) (kO HO_383004) (ko HO_383004) (kO HO_383005) (ko HO_383005) (rcS0 HO_359000) (rnS HO_359000) A68.out) ?_
         rintro e w81 ⟨v386, rfl, ho0, hb⟩
         refine ⟨_, rfl, ?_⟩
         have HO387 := Aside0.mk (Kd.S_lower (Kd.S_newB (Kd.S_new' (Kd.S_new' (Kd.S_new' (Kd.S_new' ho0 (ltS0 HO_359000)) (kl_ HO_383003)) (kl_ HO_383004)) (kl_ HO_383005)) (g := gb384) (o := .cells #[.int .i64 t363, .int .i64 a2, .int .i64 1, .slice none 0 0, .slice none 0 0, .slice none 0 0] 51 (0, 0)) (oF BK384)) (below_size oB))
         replace HO_359000 := elS0 HO_359000 (Kd.S_base ho0) hb
         replace HO_383003 := kr_ HO_383003 hb
         replace HO_383004 := kr_ HO_383004 hb
         replace HO_383005 := kr_ HO_383005 hb
         replace BK358 := kb_ BK358 hb
         replace BK359 := kb_ BK359 hb
         replace BK382 := kb_ BK382 hb
         replace BK384 := kb_ BK384 hb
         replace HB := Aside0.mk (below_step oB hb)
         obtain ⟨Ao82, co82, eo82⟩ := Kd.S_slice HO387.out
         (first | subst eo82 | (injection eo82 with f1_ f2_ f3_; have f4_ := f1_.symm; have f5_ := f3_.symm; clear f1_ f2_ f3_; subst f4_; subst f5_))
         refine hk_ hK 72 oH (fun hHeld => ?_)
         clear hK K
         refine on_ 6 74 HT_ (fun K hK => ?_)
         refine goes_ Tryz.func50 (by kernel_rfl) rfl #[.agg #[.slice Ao82 t385.length co82, .int .i64 t388], .agg #[.int .i64 t363, .int .i64 a2, .int .i64 1, .slice none 0 0, .slice none 0 0, .slice none 0 0]] (by rfl) rfl rfl oL ?_
         refine (impl_SetInode.calls kj34 _ _ t385 t388 t363 a2 1 _ _ ([] : List Int) _ _ ([] : List (S65)) _ _ ([] : List (S71)) t389 t392 _ (rcS0 HO387) (rnS HO387) ?side3 ?side4 ?side5 ?side6 ?side7 ?side8 A69.out).mono ?_
         (case side3 => exact Kd.C_nil _ _)
         (case side4 => exact Nat.le_refl _)
         (case side5 => exact Kd.C_nil _ _)
         (case side6 => exact Nat.le_refl _)
         (case side7 => exact Kd.C_nil _ _)
         (case side8 => exact Nat.le_refl _)
         rintro e w83 ⟨v390, rfl, ho0, hb⟩
         refine ⟨_, rfl, ?_⟩
         have HO391 := Aside0.mk (Kd.S_lower (Kd.S_newB (Kd.S_new' (Kd.S_new' (Kd.S_new' (Kd.S_new' (Kd.S_new' ho0 (ltS0 HO_359000)) (kl_ HO_383003)) (kl_ HO_383004)) (kl_ HO_383005)) (ltS0 HO387)) (g := gb384) (o := .cells #[.int .i64 t363, .int .i64 a2, .int .i64 1, .slice none 0 0, .slice none 0 0, .slice none 0 0] 51 (0, 0)) (oF BK384)) (below_size oB))
         replace HO_359000 := elS0 HO_359000 (Kd.S_base ho0) hb
         replace HO_383003 := kr_ HO_383003 hb
         replace HO_383004 := kr_ HO_383004 hb
         replace HO_383005 := kr_ HO_383005 hb
         replace HO387 := elS0 HO387 (Kd.S_base ho0) hb
         replace BK358 := kb_ BK358 hb
         replace BK359 := kb_ BK359 hb
         replace BK382 := kb_ BK382 hb
         replace BK384 := kb_ BK384 hb
         replace HB := Aside0.mk (below_step oB hb)
         obtain ⟨Ao84, co84, eo84⟩ := Kd.S_slice HO391.out
         (first | subst eo84 | (injection eo84 with f1_ f2_ f3_; have f4_ := f1_.symm; have f5_ := f3_.symm; clear f1_ f2_ f3_; subst f4_; subst f5_))
         refine hk_ hK 74 oH (fun hHeld => ?_)
         clear hK K
         refine one_ (i := 7) (N := none) (lb 9 255) rfl rfl (one_of HT_.out (by kernel_rfl)) (by decide) (fun K hK => ?_)
         have hs85 : w83.cell? ⟨gb359, 0, none⟩ = some (.slice none 0 0) := (blk_cell BK359.out 0).trans rfl
         have hfs85 := blk_frozen BK359.out 0
         have hns85_0 := NB358_359.out
         have hns85_2 := NB382_359.out
         have hns85_3 := NB384_359.out
         have hms85_0 := NB359_358.out
         have hms85_2 := NB359_382.out
         have hms85_3 := NB359_384.out
         have hs86 : w83.cell? ⟨gb359, 1, none⟩ = some (.int .i64 0) := (blk_cell BK359.out 1).trans rfl
         have hfs86 := blk_frozen BK359.out 1
         have hns86_0 := NB358_359.out
         have hns86_2 := NB382_359.out
         have hns86_3 := NB384_359.out
         have hms86_0 := NB359_358.out
         have hms86_2 := NB359_382.out
         have hms86_3 := NB359_384.out
         refine skip_ (w1 := ?_) (by rfl) rfl ?_ ?_
         rotate_left
         ·go_simp
          rfl
         refine hK.out _ _ ⟨((cell_far (p := ⟨gb359, _, none⟩) NB382_359.out _).trans (((cell_far (p := ⟨gb359, _, none⟩) NB382_359.out _).trans (hHeld.1)))), ((cell_far (p := ⟨gb359, _, none⟩) NB382_359.out _).trans (((cell_far (p := ⟨gb359, _, none⟩) NB382_359.out _).trans (hHeld.2.1)))), ((cell_far (p := ⟨gb359, _, none⟩) NB382_359.out _).trans (((cell_far (p := ⟨gb359, _, none⟩) NB382_359.out _).trans (hHeld.2.2.1)))), ((cell_far (p := ⟨gb359, _, none⟩) NB382_359.out _).trans (((cell_far (p := ⟨gb359, _, none⟩) NB382_359.out _).trans (hHeld.2.2.2.1)))), ((cell_far (p := ⟨gb359, _, none⟩) NB382_359.out _).trans (((cell_far (p := ⟨gb359, _, none⟩) NB382_359.out _).trans (hHeld.2.2.2.2.1)))), ((cell_far (p := ⟨gb359, _, none⟩) NB382_359.out _).trans (((cell_far (p := ⟨gb359, _, none⟩) NB382_359.out _).trans (hHeld.2.2.2.2.2.1)))), ((cell_far (p := ⟨gb359, _, none⟩) NB382_359.out _).trans (((cell_far (p := ⟨gb359, _, none⟩) NB382_359.out _).trans (hHeld.2.2.2.2.2.2.1)))), ((cell_far (p := ⟨gb359, _, none⟩) NB358_359.out _).trans (((cell_far (p := ⟨gb359, _, none⟩) NB358_359.out _).trans (hHeld.2.2.2.2.2.2.2.1)))), ((cell_far (p := ⟨gb359, _, none⟩) NB358_359.out _).trans (((cell_far (p := ⟨gb359, _, none⟩) NB358_359.out _).trans (hHeld.2.2.2.2.2.2.2.2.1)))), ((cell_far (p := ⟨gb359, _, none⟩) NB384_359.out _).trans (((cell_far (p := ⟨gb359, _, none⟩) NB384_359.out _).trans (hHeld.2.2.2.2.2.2.2.2.2.1)))), ((cell_far (p := ⟨gb359, _, none⟩) NB384_359.out _).trans (((cell_far (p := ⟨gb359, _, none⟩) NB384_359.out _).trans (hHeld.2.2.2.2.2.2.2.2.2.2.1)))), ((cell_far (p := ⟨gb359, _, none⟩) NB384_359.out _).trans (((cell_far (p := ⟨gb359, _, none⟩) NB384_359.out _).trans (hHeld.2.2.2.2.2.2.2.2.2.2.2.1)))), ((cell_far (p := ⟨gb359, _, none⟩) NB384_359.out _).trans (((cell_far (p := ⟨gb359, _, none⟩) NB384_359.out _).trans (hHeld.2.2.2.2.2.2.2.2.2.2.2.2.1)))), ((cell_far (p := ⟨gb359, _, none⟩) NB384_359.out _).trans (((cell_far (p := ⟨gb359, _, none⟩) NB384_359.out _).trans (hHeld.2.2.2.2.2.2.2.2.2.2.2.2.2.1)))), ((cell_far (p := ⟨gb359, _, none⟩) NB384_359.out _).trans (((cell_far (p := ⟨gb359, _, none⟩) NB384_359.out _).trans (hHeld.2.2.2.2.2.2.2.2.2.2.2.2.2.2))))⟩ (fun hHeld => ?_)
         clear hK K
         refine pu_ 8 7 HT_ ?_
         refine dn_ HT_ ?_
         try go_wp2
         refine bodyPost_ret (results_ct rfl _ _ gb359 26 #[.slice Ao84 t389.length co84, .int .i64 t392] (0, 0) _ rfl (oP BK359) Tryz.underlying26 rfl (by kernel_rfl)) rfl ?_
         exact ⟨_, oE, by (with_reducible repeat (first | apply Kd.S_alloc | apply Kd.S_drewN | apply Kd.S_drew)); exact Kd.S_mono (Kd.S_far (p := ⟨gb359, 1, none⟩) (Kd.S_far (p := ⟨gb359, 0, none⟩) (Kd.S_types HO391.out BK359.out (by decide)) (fun _ hk => hk.2) (.slice Ao84 t389.length co84)) (fun _ hk => hk.2) (.int .i64 t392)) (fun _ hk => trivial), oB⟩
     ·rw [if_neg c34] at H
      have c34b0 : (t383 == 0) = false := beq_eq_false_iff_ne.mpr c34
      have c34b1 : (t383 != 0) = true := bne_iff_ne.mpr c34
      simp only [Option.some.injEq, Prod.mk.injEq] at H
      obtain ⟨rfl, rfl, rfl⟩ := H
      have hnb87 := NB358_359.out
      have hnc87 := NB359_358.out
      obtain ⟨⟨_, _⟩, _, _⟩ := z2 BK358
      go_wp2_with (first | ((with_reducible refine gate_callee (f := 57) rfl ?_); refine gl_ 26 Tryz.func57 (impl_spotOf.calls kj4 _ _ t360 t363 a1 t368 t369 t370 t371 t374 t377 t380 t381 _ (rcS0 HO_359000) (rnS HO_359000) A31.out) ?_; rintro e w89 ⟨v372, v375, v378, rfl, ho0, ho1, ho2, hb⟩; refine ⟨_, rfl, ?_⟩; have HO373 := Aside0.mk (Kd.R_lower ho0 (below_size oB)); have HO376 := Aside0.mk (Kd.R_lower ho1 (below_size oB)); have HO379 := Aside0.mk (Kd.R_lower ho2 (below_size oB)); replace HO_359000 := tdS3 (olS0 HO_359000 hb) (Kd.R_base ho0) (Kd.R_base ho1) (Kd.R_base ho2); replace BK358 := kb_ BK358 hb; replace BK359 := kb_ BK359 hb; replace HB := Aside0.mk (below_step oB hb); (try clear ho1); (try clear ho2)) | ((with_reducible refine gate_dst (N := 8) rfl ?_); (try (refine gate_guard (by rfl) ?_; dsimp only)); refine bx_ 8 #[.int .i64 0, .int .i64 0, .int .i64 0, .slice none 0 0, .slice none 0 0, .slice none 0 0, .string (⟨#[]⟩ : ByteArray)] 84 ?_; intro gb382 hg w90 hbox hb; have BK382 := Aside0.mk (hbox); have GW382 := gs_ hg; have NB358_382 := nl_ hg BK358; have NB382_358 := nr_ hg BK358; have NB359_382 := nl_ hg BK359; have NB382_359 := nr_ hg BK359; replace HO_359000 := beS0 HO_359000 hb; replace HO373 := kr_ HO373 hb; replace HO376 := kr_ HO376 hb; replace HO379 := kr_ HO379 hb; replace BK358 := kb_ BK358 hb; replace BK359 := kb_ BK359 hb; replace HB := Aside0.mk (below_step oB hb); clear hb hbox hg; have hnb91 := NB382_358.out; have hnc91 := NB358_382.out; have hnb92 := NB382_359.out; have hnc92 := NB359_382.out; obtain ⟨⟨_, _, _, _, _, _, _⟩, _, _, _, _, _, _, _⟩ := z7 BK382; obtain ⟨Ao94, co94, eo94⟩ := Kd.R_slice HO373.out; subst eo94; obtain ⟨Ao95, co95, eo95⟩ := Kd.R_slice HO376.out; subst eo95; obtain ⟨Ao96, co96, eo96⟩ := Kd.R_slice HO379.out; subst eo96) | ((with_reducible refine gate_callee (f := 58) rfl ?_); refine gl_ 39 Tryz.func58 (impl_EntOf.calls kj4 t368 t369 t370 _ _ t371 _ _ t374 _ _ t377 t380 t383 _ (rcR1 HO373 BK382) (ko HO373) (rcR1 HO376 BK382) (ko HO376) (rcR1 HO379 BK382) (ko HO379) A33.out) ?_; rintro e w97 ⟨rfl, hb⟩; refine ⟨_, rfl, ?_⟩; replace HO_359000 := beS1 HO_359000 BK382 hb; replace HO373 := beR1 HO373 BK382 hb; replace HO376 := beR1 HO376 BK382 hb; replace HO379 := beR1 HO379 BK382 hb; replace BK358 := kb_ BK358 hb; replace BK359 := kb_ BK359 hb; replace BK382 := kp_ #[.int .i64 t368, .int .i64 t369, .int .i64 t370, .slice Ao94 t371.length co94, .slice Ao95 t374.length co95, .slice Ao96 t377.length co96, .string t380] BK382 hb; replace HB := Aside0.mk (below_step oB hb); (try clear hk); obtain ⟨⟨_, _⟩, _, _⟩ := z2 BK358; obtain ⟨⟨_, _⟩, _, _⟩ := z2 BK359))
      refine bodyPost_ret (results_ct rfl _ _ gb359 26 #[.slice Ao11 t360.length co11, .int .i64 t363] (0, 0) _ rfl (oP BK359) Tryz.underlying26 rfl (by kernel_rfl)) rfl ?_
      exact ⟨_, oE, by (with_reducible repeat (first | apply Kd.S_alloc | apply Kd.S_drewN | apply Kd.S_drew)); exact Kd.S_mono (Kd.S_far (p := ⟨gb359, 1, none⟩) (Kd.S_far (p := ⟨gb359, 0, none⟩) (Kd.S_types HO_359000.out BK359.out (by decide)) (fun _ hk => hk.2) (.slice Ao11 t360.length co11)) (fun _ hk => hk.2) (.int .i64 t363)) (fun _ hk => trivial), oB⟩
    ·rw [if_neg c32] at H
     have c32b0 : (t381 == 0) = false := beq_eq_false_iff_ne.mpr c32
     have c32b1 : (t381 != 0) = true := bne_iff_ne.mpr c32
     simp only [Option.some.injEq, Prod.mk.injEq] at H
     obtain ⟨rfl, rfl, rfl⟩ := H
     have hnb100 := NB358_359.out
     have hnc100 := NB359_358.out
     obtain ⟨⟨_, _⟩, _, _⟩ := z2 BK358
     go_wp2_with (first | ((with_reducible refine gate_callee (f := 57) rfl ?_); refine gl_ 26 Tryz.func57 (impl_spotOf.calls kj4 _ _ t360 t363 a1 t368 t369 t370 t371 t374 t377 t380 t381 _ (rcS0 HO_359000) (rnS HO_359000) A31.out) ?_; rintro e w102 ⟨v372, v375, v378, rfl, ho0, ho1, ho2, hb⟩; refine ⟨_, rfl, ?_⟩; have HO373 := Aside0.mk (Kd.R_lower ho0 (below_size oB)); have HO376 := Aside0.mk (Kd.R_lower ho1 (below_size oB)); have HO379 := Aside0.mk (Kd.R_lower ho2 (below_size oB)); replace HO_359000 := tdS3 (olS0 HO_359000 hb) (Kd.R_base ho0) (Kd.R_base ho1) (Kd.R_base ho2); replace BK358 := kb_ BK358 hb; replace BK359 := kb_ BK359 hb; replace HB := Aside0.mk (below_step oB hb); (try clear ho1); (try clear ho2)) | ((with_reducible refine gate_dst (N := 8) rfl ?_); (try (refine gate_guard (by rfl) ?_; dsimp only)); refine bx_ 8 #[.int .i64 0, .int .i64 0, .int .i64 0, .slice none 0 0, .slice none 0 0, .slice none 0 0, .string (⟨#[]⟩ : ByteArray)] 84 ?_; intro gb382 hg w103 hbox hb; have BK382 := Aside0.mk (hbox); have GW382 := gs_ hg; have NB358_382 := nl_ hg BK358; have NB382_358 := nr_ hg BK358; have NB359_382 := nl_ hg BK359; have NB382_359 := nr_ hg BK359; replace HO_359000 := beS0 HO_359000 hb; replace HO373 := kr_ HO373 hb; replace HO376 := kr_ HO376 hb; replace HO379 := kr_ HO379 hb; replace BK358 := kb_ BK358 hb; replace BK359 := kb_ BK359 hb; replace HB := Aside0.mk (below_step oB hb); clear hb hbox hg; have hnb104 := NB382_358.out; have hnc104 := NB358_382.out; have hnb105 := NB382_359.out; have hnc105 := NB359_382.out; obtain ⟨⟨_, _, _, _, _, _, _⟩, _, _, _, _, _, _, _⟩ := z7 BK382; obtain ⟨Ao107, co107, eo107⟩ := Kd.R_slice HO373.out; subst eo107; obtain ⟨Ao108, co108, eo108⟩ := Kd.R_slice HO376.out; subst eo108; obtain ⟨Ao109, co109, eo109⟩ := Kd.R_slice HO379.out; subst eo109; obtain ⟨⟨_, _⟩, _, _⟩ := z2 BK358; obtain ⟨⟨_, _⟩, _, _⟩ := z2 BK359))
     refine bodyPost_ret (results_ct rfl _ _ gb359 26 #[.slice Ao11 t360.length co11, .int .i64 t363] (0, 0) _ rfl (oP BK359) Tryz.underlying26 rfl (by kernel_rfl)) rfl ?_
     exact ⟨_, oE, by (with_reducible repeat (first | apply Kd.S_alloc | apply Kd.S_drewN | apply Kd.S_drew)); exact Kd.S_mono (Kd.S_far (p := ⟨gb359, 1, none⟩) (Kd.S_far (p := ⟨gb359, 0, none⟩) (Kd.S_far (p := ⟨gb382, 6, none⟩) (Kd.S_far (p := ⟨gb382, 5, none⟩) (Kd.S_far (p := ⟨gb382, 4, none⟩) (Kd.S_far (p := ⟨gb382, 3, none⟩) (Kd.S_far (p := ⟨gb382, 2, none⟩) (Kd.S_far (p := ⟨gb382, 1, none⟩) (Kd.S_far (p := ⟨gb382, 0, none⟩) (Kd.S_types (Kd.S_types HO_359000.out BK382.out (by decide)) BK359.out (by decide)) (fun _ hk => hk.1.2) (.int .i64 t368)) (fun _ hk => hk.1.2) (.int .i64 t369)) (fun _ hk => hk.1.2) (.int .i64 t370)) (fun _ hk => hk.1.2) (.slice Ao107 t371.length co107)) (fun _ hk => hk.1.2) (.slice Ao108 t374.length co108)) (fun _ hk => hk.1.2) (.slice Ao109 t377.length co109)) (fun _ hk => hk.1.2) (.string t380)) (fun _ hk => hk.2) (.slice Ao11 t360.length co11)) (fun _ hk => hk.2) (.int .i64 t363)) (fun _ hk => trivial), oB⟩

end Go.Proofs.YtkcfmbggdkkfeaaGreatDoor.P
