-- By this session's own program (wip/myprint.py) out of the translation; Lean checks it.
import Derived.Test.YtkcfmbggdkkfeaaGreatDoorPx0
import Derived.Test.YtkcfmbggdkkfeaaGreatDoorPx2
import Derived.Test.YtkcfmbggdkkfeaaGreatDoorPx3
import Derived.Test.YtkcfmbggdkkfeaaGreatDoorPx5
import Derived.Test.YtkcfmbggdkkfeaaGreatDoorPx7
import Derived.Test.YtkcfmbggdkkfeaaGreatDoorPx8
import Derived.Test.YtkcfmbggdkkfeaaGreatDoorPx10
import Derived.Test.YtkcfmbggdkkfeaaGreatDoorPx11
namespace Go.Proofs.YtkcfmbggdkkfeaaGreatDoor.P
open Go.RowKit Go.Proofs.YtkcfmbggdkkfeaaGreatDoorW.PrintWords Go.Proofs.YtkcfmbggdkkfeaaGreatDoorW.PrintLast Go.Proofs.YtkcfmbggdkkfeaaGreatDoorW.PrintMore
attribute [local go_sem] max2_int min2_int max_two min_two max_three min_three max_four min_four   -- for this text's walks alone
set_option linter.unusedVariables false
set_option linter.unusedSimpArgs false

/-! ### impl_HardLink: function 27 -/
def impl_HardLink.j0 : Nat → ByteArray → ByteArray → Bool → List (S51) → Int → Option ((List (S51)) × Int × Int)
 | 0, _, _, _, _, _ => none
 | k + 1, x1, x2, x22, x464000, x464001 => if x22 = true then (some (x464000, x464001, 1)) else ((impl_fileAt.f k x464000 x464001 x1).bind fun bt473 => (if bt473.2.2.2.2.2.2 = 0 then ((impl_spotOf.f k x464000 x464001 x2).bind fun bt487 => (if bt487.2.2.2.2.2.2.2 = 0 then ((impl_EntOf.f k bt487.1 bt487.2.1 bt487.2.2.1 bt487.2.2.2.1 bt487.2.2.2.2.1 bt487.2.2.2.2.2.1 bt487.2.2.2.2.2.2.1).bind fun t502 => (if t502 = 0 then (if (bt487.2.2.2.2.1.length : Int) = 10 then (some (x464000, x464001, 5)) else ((impl_spot_enter.f k bt487.1 bt487.2.1 bt487.2.2.1 bt487.2.2.2.1 bt487.2.2.2.2.1 bt487.2.2.2.2.2.1 bt487.2.2.2.2.2.2.1 x464000 x464001 bt473.1).bind fun bt503 => ((impl_SetInode.f k bt503.1 bt503.2 bt473.1 bt473.2.1 (wrap64 (bt473.2.2.1 + 1)) bt473.2.2.2.1 bt473.2.2.2.2.1 bt473.2.2.2.2.2.1).bind fun bt507 => (some (bt507.1, bt507.2, 0))))) else (some (x464000, x464001, 4)))) else (some (x464000, x464001, bt487.2.2.2.2.2.2.2)))) else (some (x464000, x464001, bt473.2.2.2.2.2.2))))
def impl_HardLink.f (k : Nat) (l0_0 : List (S51)) (a0_1 : Int) (a1 : ByteArray) (a2 : ByteArray) : Option ((List (S51)) × Int × Int) := (impl_copyTab.f k l0_0 a0_1).bind fun bt465 => ((impl_ready.f k bt465.1 bt465.2 (([a1, a2] : List ByteArray))).bind fun t472 => (if t472 = true then (impl_HardLink.j0 k a1 a2 (a2.toList == ([47] : List UInt8)) bt465.1 bt465.2) else (impl_HardLink.j0 k a1 a2 true bt465.1 bt465.2)))
def impl_HardLink.T15 : Bool × List (List Nat × List Nat) := (true, [([], []), ([], []), ([], []), ([2], [2]), ([0, 1, 3], [0, 1, 3]), ([], []), ([4, 5, 4], [4, 5]), ([6, 6, 0, 1, 2, 3, 4, 5, 6], [6]), ([7, 0, 1, 2, 3, 4, 5, 6, 7], [])])
def impl_HardLink.B15 : List Nat := [0, 0, 0, 4, 15, 0, 63, 127, 255]
theorem impl_HardLink.tab15 : rtab .any (opsOf Tryz.f27 15) = impl_HardLink.T15 := by kernel_rfl
theorem impl_HardLink.bits15 : waitsOk impl_HardLink.T15.2 impl_HardLink.B15 = true := by kernel_rfl
set_option maxHeartbeats 8000000 in
set_option maxRecDepth 100000 in
theorem impl_HardLink.calls (k : Nat) (A0_0 : Option Addr) (c0_0 : Nat) (l0_0 : List (S51)) (a0_1 : Int) (a1 : ByteArray) (a2 : ByteArray) (r1 : List (S51)) (r2 : Int) (r3 : Int) (w : World) (hr0_0 : Kd.C k51 w A0_0 l0_0.length l0_0) (hc0_0 : l0_0.length ≤ c0_0) (h : impl_HardLink.f k l0_0 a0_1 a1 a2 = some (r1, r2, r3)) (hG : GOk w := by exact gk_ oB (by first | (with_reducible assumption) | assumption)) :
  Calls Tryz.prog 27 #[.agg #[.slice A0_0 l0_0.length c0_0, .int .i64 a0_1], .string a1, .string a2] w fun e w' => ∃ v0_ : Value, e = .returned (.tuple #[.agg #[v0_, .int .i64 r2], .int .i64 r3]) ∧ Kd.S k51 51 w' w.heap.size (fun _ => True) v0_ r1 ∧ Below w.heap.size w w' := by
 have HG := Aside0.mk hG
 clear hG
 have hu26 := Tryz.underlying26
 have hu51 := Tryz.underlying51
 have hu84 := Tryz.underlying84
 have HR0_0 := Aside0.mk hr0_0
 have HC0_0 := Aside0.mk hc0_0
 clear hr0_0 hc0_0
 have HB := Aside0.mk (Below.refl w.heap.size w)
 unfold impl_HardLink.f at h
 have H := h
 clear h
 replace H := bA H
 obtain ⟨⟨t465, t468⟩, A4, H⟩ := H
 try dsimp only at H
 have HC5 := Aside0.mk H
 clear H
 go_enter Tryz.func27, Tryz.ntmps27
 go_upto_region 2 with (first | ((with_reducible refine gate_dst (N := 3) rfl ?_); refine bx_ 3 #[.slice A0_0 l0_0.length c0_0, .int .i64 a0_1] 26 ?_; intro gb463 hg w6 hbox hb; have BK463 := Aside0.mk (hbox); have GW463 := gs_ hg; replace HB := Aside0.mk (below_step oB hb); clear hb hbox hg) | ((with_reducible refine gate_dst (N := 6) rfl ?_); refine bx_ 6 #[.slice none 0 0, .int .i64 0] 26 ?_; intro gb464 hg w7 hbox hb; have BK464 := Aside0.mk (hbox); have GW464 := gs_ hg; have NB463_464 := nl_ hg BK463; have NB464_463 := nr_ hg BK463; replace BK463 := kb_ BK463 hb; replace HB := Aside0.mk (below_step oB hb); clear hb hbox hg; have hnb8 := NB463_464.out; have hnc8 := NB464_463.out; obtain ⟨⟨_, _⟩, _, _⟩ := z2 BK463) | ((with_reducible refine gate_callee (f := 45) rfl ?_); refine gl_ 12 Tryz.func45 (impl_copyTab.calls k _ _ l0_0 a0_1 t465 t468 _ (kC HR0_0) HC0_0.out A4.out) ?_; rintro e w10 ⟨v466, rfl, ho0, hb⟩; refine ⟨_, rfl, ?_⟩; have HO467 := Aside0.mk (Kd.S_lower ho0 (below_size oB)); replace BK463 := kb_ BK463 hb; replace BK464 := kb_ BK464 hb; replace HB := Aside0.mk (below_step oB hb); obtain ⟨Ao11, co11, eo11⟩ := Kd.S_slice HO467.out; subst eo11; obtain ⟨⟨_, _⟩, _, _⟩ := z2 BK463))
 (try simp only [Act.put, List.setIfInBounds_toArray, List.set_cons_zero, List.set_cons_succ])
 go_cut [22] (fun v22 wc => ∃ (kq : Nat) (x22_4 : Bool), v22 = .bool x22_4 ∧ Aside0 (impl_HardLink.j0 kq a1 a2 x22_4 t465 t468 = some (r1, r2, r3)) ∧ Aside0 (kq ≤ k) ∧ Aside0 (Kd.S k51 51 wc w.heap.size (fun _ => True) (.slice Ao11 t465.length co11) t465) ∧ Aside0 (wc.heap[gb463]? = some (.cells #[(.slice Ao11 t465.length co11), .int .i64 t468] 26 (0, 0))) ∧ Aside0 (wc.heap[gb464]? = some (.cells #[(.slice none 0 0), .int .i64 0] 26 (0, 0))) ∧ Aside0 (Below w.heap.size w wc))
 case first =>
  have H := HC5.out
  clear HC5
  obtain ⟨y469, hy469⟩ : ∃ y_ : List ByteArray, y_ = (([a1, a2] : List ByteArray)) := ⟨_, rfl⟩
  replace H : ((impl_ready.f k t465 t468 y469).bind fun t472 => (if t472 = true then (impl_HardLink.j0 k a1 a2 (a2.toList == ([47] : List UInt8)) t465 t468) else (impl_HardLink.j0 k a1 a2 true t465 t468))) = some (r1, r2, r3) := by first | (rw [hy469]; with_reducible exact H) | (have H2_ := (Option.bind_some _ _).symm.trans H; rw [hy469]; with_reducible exact H2_) | (have H2_ := (Option.bind_some _ _).symm.trans H; with_reducible exact H2_) | with_reducible exact H | (rw [hy469]; exact H) | exact H
  have Ny469 := Aside0.mk hy469
  clear hy469
  replace H := bA H
  obtain ⟨t472, A13, H⟩ := H
  try dsimp only at H
  replace H := itB H
  rcases H with ⟨rfl, H⟩ | ⟨rfl, H⟩
  ·have H' := Aside0.mk H
   clear H
   have hnb15 := NB463_464.out
   have hnc15 := NB464_463.out
   obtain ⟨⟨_, _⟩, _, _⟩ := z2 BK463
   go_wp2_with (first | ((with_reducible refine gate_dst (N := 16) rfl ?_); refine Kd.R_lit Kd.string _ 9 ?hg (N := 16) ?hd (xs := ([a1, a2] : List ByteArray)) (inner := [.string a1, .string a2]) (ok := fun _ => True) (okp := fun _ => True) ?hr ?hp (fun _ hk => hk) trivial (Below.refl _ _) (Nat.le_refl _) (by simp) ?_; (case hd => rfl); (case hg => rfl); (case hr => first | (go_simp; done) | (go_simp; rfl)); (case hp => exact (Reps.one (show Kd.M Kd.string _ _ _ a1 [.string a1] from rfl) (Reps.one (show Kd.M Kd.string _ _ _ a2 [.string a2] from rfl) (Reps.none _ _)))); intro v470 w17 ho18 hb hg_ hnew_; clear hg_ hnew_; (first | rw [← Ny469.out] at ho18 | (simp only [Int.reduceToNat] at ho18; rw [← Ny469.out] at ho18)); have HO471 := Aside0.mk (Kd.R_lower ho18 (below_size oB)); replace HO467 := beS1 HO467 BK463 hb; replace BK463 := kp_ #[.slice Ao11 t465.length co11, .int .i64 t468] BK463 hb; replace BK464 := kb_ BK464 hb; replace HB := Aside0.mk (below_step oB hb); clear hb ho18; obtain ⟨Ao19, co19, eo19⟩ := Kd.R_slice HO471.out; subst eo19) | ((with_reducible refine gate_callee (f := 46) rfl ?_); refine gl_ 17 Tryz.func46 (impl_ready.calls k _ _ t465 t468 _ _ y469 true _ (rcS0 HO467) (rnS HO467) (kO HO471) (ko HO471) A13.out) ?_; rintro e w20 ⟨rfl, hb⟩; refine ⟨_, rfl, ?_⟩; replace HO467 := beS0 HO467 hb; replace HO471 := kr_ HO471 hb; replace BK463 := kb_ BK463 hb; replace BK464 := kb_ BK464 hb; replace HB := Aside0.mk (below_step oB hb)))
   go_meet
   case rel => exact ⟨_, ((a2.toList == ([47] : List UInt8))), oS, H', ⟨by first | omega | exact Nat.le_refl _⟩, ⟨by (with_reducible repeat (first | apply Kd.S_alloc | apply Kd.S_drewN | apply Kd.S_drew)); exact HO467.out⟩, ⟨oF BK463⟩, ⟨oF BK464⟩, ⟨oB⟩⟩
  ·have H' := Aside0.mk H
   clear H
   have hnb21 := NB463_464.out
   have hnc21 := NB464_463.out
   obtain ⟨⟨_, _⟩, _, _⟩ := z2 BK463
   go_wp2_with (first | ((with_reducible refine gate_dst (N := 16) rfl ?_); refine Kd.R_lit Kd.string _ 9 ?hg (N := 16) ?hd (xs := ([a1, a2] : List ByteArray)) (inner := [.string a1, .string a2]) (ok := fun _ => True) (okp := fun _ => True) ?hr ?hp (fun _ hk => hk) trivial (Below.refl _ _) (Nat.le_refl _) (by simp) ?_; (case hd => rfl); (case hg => rfl); (case hr => first | (go_simp; done) | (go_simp; rfl)); (case hp => exact (Reps.one (show Kd.M Kd.string _ _ _ a1 [.string a1] from rfl) (Reps.one (show Kd.M Kd.string _ _ _ a2 [.string a2] from rfl) (Reps.none _ _)))); intro v470 w23 ho24 hb hg_ hnew_; clear hg_ hnew_; (first | rw [← Ny469.out] at ho24 | (simp only [Int.reduceToNat] at ho24; rw [← Ny469.out] at ho24)); have HO471 := Aside0.mk (Kd.R_lower ho24 (below_size oB)); replace HO467 := beS1 HO467 BK463 hb; replace BK463 := kp_ #[.slice Ao11 t465.length co11, .int .i64 t468] BK463 hb; replace BK464 := kb_ BK464 hb; replace HB := Aside0.mk (below_step oB hb); clear hb ho24; obtain ⟨Ao25, co25, eo25⟩ := Kd.R_slice HO471.out; subst eo25) | ((with_reducible refine gate_callee (f := 46) rfl ?_); refine gl_ 17 Tryz.func46 (impl_ready.calls k _ _ t465 t468 _ _ y469 false _ (rcS0 HO467) (rnS HO467) (kO HO471) (ko HO471) A13.out) ?_; rintro e w26 ⟨rfl, hb⟩; refine ⟨_, rfl, ?_⟩; replace HO467 := beS0 HO467 hb; replace HO471 := kr_ HO471 hb; replace BK463 := kb_ BK463 hb; replace BK464 := kb_ BK464 hb; replace HB := Aside0.mk (below_step oB hb)))
   go_meet
   case rel => exact ⟨_, (true), oS, H', ⟨by first | omega | exact Nat.le_refl _⟩, ⟨by (with_reducible repeat (first | apply Kd.S_alloc | apply Kd.S_drewN | apply Kd.S_drew)); exact HO467.out⟩, ⟨oF BK463⟩, ⟨oF BK464⟩, ⟨oB⟩⟩
 case rest =>
  clear HC5
  obtain ⟨kq, x22_4, rfl, HA, HJ4, HO_464000, BK463, BK464, HB⟩ := hcut
  cases kq with
  | zero => exact absurd HA.out (by simp [impl_HardLink.j0])
  | succ kj4 =>
   have H := HA.out
   clear HA
   simp only [impl_HardLink.j0] at H
   replace H := itB H
   rcases H with ⟨rfl, H⟩ | ⟨rfl, H⟩
   ·simp only [Option.some.injEq, Prod.mk.injEq] at H
    obtain ⟨rfl, rfl, rfl⟩ := H
    have hnb28 := NB463_464.out
    have hnc28 := NB464_463.out
    obtain ⟨⟨_, _⟩, _, _⟩ := z2 BK463
    obtain ⟨⟨_, _⟩, _, _⟩ := z2 BK464
    go_wp2
    refine bodyPost_ret (results_ct rfl _ _ gb464 26 #[.slice Ao11 t465.length co11, .int .i64 t468] (0, 0) _ rfl (oP BK464) Tryz.underlying26 rfl (by kernel_rfl)) rfl ?_
    exact ⟨_, oE, by (with_reducible repeat (first | apply Kd.S_alloc | apply Kd.S_drewN | apply Kd.S_drew)); exact Kd.S_mono (Kd.S_far (p := ⟨gb464, 1, none⟩) (Kd.S_far (p := ⟨gb464, 0, none⟩) (Kd.S_types HO_464000.out BK464.out (by decide)) (fun _ hk => hk.2) (.slice Ao11 t465.length co11)) (fun _ hk => hk.2) (.int .i64 t468)) (fun _ hk => trivial), oB⟩
   ·replace H := bA H
    obtain ⟨⟨t473, t474, t475, t476, t479, t482, t485⟩, A31, H⟩ := H
    try dsimp only at H
    by_cases c32 : t485 = 0
    ·rw [if_pos c32] at H
     have c32b0 : (t485 == 0) = true := beq_iff_eq.mpr c32
     have c32b1 : (t485 != 0) = false := bne_eq_false_iff_eq.mpr c32
     clear c32
     replace H := bA H
     obtain ⟨⟨t487, t488, t489, t490, t493, t496, t499, t500⟩, A33, H⟩ := H
     try dsimp only at H
     by_cases c34 : t500 = 0
     ·rw [if_pos c34] at H
      have c34b0 : (t500 == 0) = true := beq_iff_eq.mpr c34
      have c34b1 : (t500 != 0) = false := bne_eq_false_iff_eq.mpr c34
      clear c34
      replace H := bA H
      obtain ⟨t502, A35, H⟩ := H
      try dsimp only at H
      by_cases c36 : t502 = 0
      ·rw [if_pos c36] at H
       have c36b0 : (t502 == 0) = true := beq_iff_eq.mpr c36
       have c36b1 : (t502 != 0) = false := bne_eq_false_iff_eq.mpr c36
       clear c36
       by_cases c37 : (t493.length : Int) = 10
       ·rw [if_pos c37] at H
        have c37b0 : ((t493.length : Int) == 10) = true := beq_iff_eq.mpr c37
        have c37b1 : ((t493.length : Int) != 10) = false := bne_eq_false_iff_eq.mpr c37
        clear c37
        simp only [Option.some.injEq, Prod.mk.injEq] at H
        obtain ⟨rfl, rfl, rfl⟩ := H
        have hnb38 := NB463_464.out
        have hnc38 := NB464_463.out
        obtain ⟨⟨_, _⟩, _, _⟩ := z2 BK463
        go_wp2_with (first | ((with_reducible refine gate_callee (f := 48) rfl ?_); refine gl_ 27 Tryz.func48 (impl_fileAt.calls kj4 _ _ t465 t468 a1 t473 t474 t475 t476 t479 t482 t485 _ (rcS0 HO_464000) (rnS HO_464000) A31.out) ?_; rintro e w40 ⟨v477, v480, v483, rfl, ho0, ho1, ho2, hb⟩; refine ⟨_, rfl, ?_⟩; have HO478 := Aside0.mk (Kd.R_lower ho0 (below_size oB)); have HO481 := Aside0.mk (Kd.R_lower ho1 (below_size oB)); have HO484 := Aside0.mk (Kd.R_lower ho2 (below_size oB)); replace HO_464000 := tdS3 (olS0 HO_464000 hb) (Kd.R_base ho0) (Kd.R_base ho1) (Kd.R_base ho2); replace BK463 := kb_ BK463 hb; replace BK464 := kb_ BK464 hb; replace HB := Aside0.mk (below_step oB hb); (try clear ho1); (try clear ho2)) | ((with_reducible refine gate_dst (N := 8) rfl ?_); refine bx_ 8 #[.int .i64 0, .int .i64 0, .int .i64 0, .slice none 0 0, .slice none 0 0, .slice none 0 0] 51 ?_; intro gb486 hg w41 hbox hb; have BK486 := Aside0.mk (hbox); have GW486 := gs_ hg; have NB463_486 := nl_ hg BK463; have NB486_463 := nr_ hg BK463; have NB464_486 := nl_ hg BK464; have NB486_464 := nr_ hg BK464; replace HO_464000 := Aside0.mk (Kd.S_below (Kd.S_elderB (nS0 HO_464000) gb486 (Nat.le_of_eq hg.symm)) hb); replace HO478 := kr_ HO478 hb; replace HO481 := kr_ HO481 hb; replace HO484 := kr_ HO484 hb; replace BK463 := kb_ BK463 hb; replace BK464 := kb_ BK464 hb; replace HB := Aside0.mk (below_step oB hb); clear hb hbox hg; have hnb42 := NB486_463.out; have hnc42 := NB463_486.out; have hnb43 := NB486_464.out; have hnc43 := NB464_486.out; obtain ⟨⟨_, _, _, _, _, _⟩, _, _, _, _, _, _⟩ := z6 BK486; obtain ⟨Ao45, co45, eo45⟩ := Kd.R_slice HO478.out; subst eo45; obtain ⟨Ao46, co46, eo46⟩ := Kd.R_slice HO481.out; subst eo46; obtain ⟨Ao47, co47, eo47⟩ := Kd.R_slice HO484.out; subst eo47; obtain ⟨⟨_, _⟩, _, _⟩ := z2 BK463) | ((with_reducible refine gate_callee (f := 57) rfl ?_); refine gl_ 37 Tryz.func57 (impl_spotOf.calls kj4 _ _ t465 t468 a2 t487 t488 t489 t490 t493 t496 t499 t500 _ (rcS2 HO_464000 gb486 (fun _ hk => hk.2)) (rnS HO_464000) A33.out) ?_; rintro e w49 ⟨v491, v494, v497, rfl, ho0, ho1, ho2, hb⟩; refine ⟨_, rfl, ?_⟩; have HO492 := Aside0.mk (Kd.R_lower (Kd.R_new' ho0 (ltR1 HO478 BK486)) (below_size oB)); have HO495 := Aside0.mk (Kd.R_lower (Kd.R_new' ho1 (ltR1 HO481 BK486)) (below_size oB)); have HO498 := Aside0.mk (Kd.R_lower (Kd.R_new' ho2 (ltR1 HO484 BK486)) (below_size oB)); replace HO_464000 := tdS3 (olS2 HO_464000 gb486 (fun _ hk => hk.2) hb) (Kd.R_base ho0) (Kd.R_base ho1) (Kd.R_base ho2); replace HO478 := elR1 HO478 BK486 (Kd.R_base ho0) hb; replace HO481 := elR1 HO481 BK486 (Kd.R_base ho1) hb; replace HO484 := elR1 HO484 BK486 (Kd.R_base ho2) hb; replace BK463 := kb_ BK463 hb; replace BK464 := kb_ BK464 hb; replace BK486 := kp_ #[.int .i64 t473, .int .i64 t474, .int .i64 t475, .slice Ao45 t476.length co45, .slice Ao46 t479.length co46, .slice Ao47 t482.length co47] BK486 hb; replace HB := Aside0.mk (below_step oB hb); (try clear hk); (try clear ho1); (try clear ho2)) | ((with_reducible refine gate_dst (N := 10) rfl ?_); refine bx_ 10 #[.int .i64 0, .int .i64 0, .int .i64 0, .slice none 0 0, .slice none 0 0, .slice none 0 0, .string (⟨#[]⟩ : ByteArray)] 84 ?_; intro gb501 hg w50 hbox hb; have BK501 := Aside0.mk (hbox); have GW501 := gs_ hg; have NB463_501 := nl_ hg BK463; have NB501_463 := nr_ hg BK463; have NB464_501 := nl_ hg BK464; have NB501_464 := nr_ hg BK464; have NB486_501 := nl_ hg BK486; have NB501_486 := nr_ hg BK486; replace HO_464000 := beS0 HO_464000 hb; replace HO478 := kr_ HO478 hb; replace HO481 := kr_ HO481 hb; replace HO484 := kr_ HO484 hb; replace HO492 := kr_ HO492 hb; replace HO495 := kr_ HO495 hb; replace HO498 := kr_ HO498 hb; replace BK463 := kb_ BK463 hb; replace BK464 := kb_ BK464 hb; replace BK486 := kb_ BK486 hb; replace HB := Aside0.mk (below_step oB hb); clear hb hbox hg; have hnb51 := NB501_463.out; have hnc51 := NB463_501.out; have hnb52 := NB501_464.out; have hnc52 := NB464_501.out; have hnb53 := NB501_486.out; have hnc53 := NB486_501.out; obtain ⟨⟨_, _, _, _, _, _, _⟩, _, _, _, _, _, _, _⟩ := z7 BK501; obtain ⟨Ao55, co55, eo55⟩ := Kd.R_slice HO492.out; subst eo55; obtain ⟨Ao56, co56, eo56⟩ := Kd.R_slice HO495.out; subst eo56; obtain ⟨Ao57, co57, eo57⟩ := Kd.R_slice HO498.out; subst eo57) | ((with_reducible refine gate_callee (f := 58) rfl ?_); refine gl_ 50 Tryz.func58 (impl_EntOf.calls kj4 t487 t488 t489 _ _ t490 _ _ t493 _ _ t496 t499 t502 _ (rcR1 HO492 BK501) (ko HO492) (rcR1 HO495 BK501) (ko HO495) (rcR1 HO498 BK501) (ko HO498) A35.out) ?_; rintro e w58 ⟨rfl, hb⟩; refine ⟨_, rfl, ?_⟩; replace HO_464000 := beS1 HO_464000 BK501 hb; replace HO478 := beR1 HO478 BK501 hb; replace HO481 := beR1 HO481 BK501 hb; replace HO484 := beR1 HO484 BK501 hb; replace HO492 := beR1 HO492 BK501 hb; replace HO495 := beR1 HO495 BK501 hb; replace HO498 := beR1 HO498 BK501 hb; replace BK463 := kb_ BK463 hb; replace BK464 := kb_ BK464 hb; replace BK486 := kb_ BK486 hb; replace BK501 := kp_ #[.int .i64 t487, .int .i64 t488, .int .i64 t489, .slice Ao55 t490.length co55, .slice Ao56 t493.length co56, .slice Ao57 t496.length co57, .string t499] BK501 hb; replace HB := Aside0.mk (below_step oB hb); (try clear hk); obtain ⟨⟨_, _, _, _, _, _, _⟩, _, _, _, _, _, _, _⟩ := z7 BK501; obtain ⟨⟨_, _⟩, _, _⟩ := z2 BK463; obtain ⟨⟨_, _⟩, _, _⟩ := z2 BK464))
        refine bodyPost_ret (results_ct rfl _ _ gb464 26 #[.slice Ao11 t465.length co11, .int .i64 t468] (0, 0) _ rfl (oP BK464) Tryz.underlying26 rfl (by kernel_rfl)) rfl ?_
        exact ⟨_, oE, by (with_reducible repeat (first | apply Kd.S_alloc | apply Kd.S_drewN | apply Kd.S_drew)); exact Kd.S_mono (Kd.S_far (p := ⟨gb464, 1, none⟩) (Kd.S_far (p := ⟨gb464, 0, none⟩) (Kd.S_types HO_464000.out BK464.out (by decide)) (fun _ hk => hk.2) (.slice Ao11 t465.length co11)) (fun _ hk => hk.2) (.int .i64 t468)) (fun _ hk => trivial), oB⟩
       ·rw [if_neg c37] at H
        have c37b0 : ((t493.length : Int) == 10) = false := beq_eq_false_iff_ne.mpr c37
        have c37b1 : ((t493.length : Int) != 10) = true := bne_iff_ne.mpr c37
        replace H := bA H
        obtain ⟨⟨t503, t506⟩, A62, H⟩ := H
        try dsimp only at H
        replace H := bA H
        obtain ⟨⟨t507, t510⟩, A63, H⟩ := H
        try dsimp only at H
        simp only [Option.some.injEq, Prod.mk.injEq] at H
        obtain ⟨rfl, rfl, rfl⟩ := H
        have hnb64 := NB463_464.out
        have hnc64 := NB464_463.out
        obtain ⟨⟨_, _⟩, _, _⟩ := z2 BK463
        try go_wp2_with (first | ((with_reducible refine gate_callee (f := 48) rfl ?_); refine gl_ 27 Tryz.func48 (impl_fileAt.calls kj4 _ _ t465 t468 a1 t473 t474 t475 t476 t479 t482 t485 _ (rcS0 HO_464000) (rnS HO_464000) A31.out) ?_; rintro e w66 ⟨v477, v480, v483, rfl, ho0, ho1, ho2, hb⟩; refine ⟨_, rfl, ?_⟩; have HO478 := Aside0.mk (Kd.R_lower ho0 (below_size oB)); have HO481 := Aside0.mk (Kd.R_lower ho1 (below_size oB)); have HO484 := Aside0.mk (Kd.R_lower ho2 (below_size oB)); replace HO_464000 := tdS3 (olS0 HO_464000 hb) (Kd.R_base ho0) (Kd.R_base ho1) (Kd.R_base ho2); replace BK463 := kb_ BK463 hb; replace BK464 := kb_ BK464 hb; replace HB := Aside0.mk (below_step oB hb); (try clear ho1); (try clear ho2)) | ((with_reducible refine gate_dst (N := 8) rfl ?_); refine bx_ 8 #[.int .i64 0, .int .i64 0, .int .i64 0, .slice none 0 0, .slice none 0 0, .slice none 0 0] 51 ?_; intro gb486 hg w67 hbox hb; have BK486 := Aside0.mk (hbox); have GW486 := gs_ hg; have NB463_486 := nl_ hg BK463; have NB486_463 := nr_ hg BK463; have NB464_486 := nl_ hg BK464; have NB486_464 := nr_ hg BK464; replace HO_464000 := Aside0.mk (Kd.S_below (Kd.S_elderB (nS0 HO_464000) gb486 (Nat.le_of_eq hg.symm)) hb); replace HO478 := kr_ HO478 hb; replace HO481 := kr_ HO481 hb; replace HO484 := kr_ HO484 hb; replace BK463 := kb_ BK463 hb; replace BK464 := kb_ BK464 hb; replace HB := Aside0.mk (below_step oB hb); clear hb hbox hg; have hnb68 := NB486_463.out; have hnc68 := NB463_486.out; have hnb69 := NB486_464.out; have hnc69 := NB464_486.out; obtain ⟨⟨_, _, _, _, _, _⟩, _, _, _, _, _, _⟩ := z6 BK486; obtain ⟨Ao71, co71, eo71⟩ := Kd.R_slice HO478.out; subst eo71; obtain ⟨Ao72, co72, eo72⟩ := Kd.R_slice HO481.out; subst eo72; obtain ⟨Ao73, co73, eo73⟩ := Kd.R_slice HO484.out; subst eo73; obtain ⟨⟨_, _⟩, _, _⟩ := z2 BK463) | ((with_reducible refine gate_callee (f := 57) rfl ?_); refine gl_ 37 Tryz.func57 (impl_spotOf.calls kj4 _ _ t465 t468 a2 t487 t488 t489 t490 t493 t496 t499 t500 _ (rcS2 HO_464000 gb486 (fun _ hk => hk.2)) (rnS HO_464000) A33.out) ?_; rintro e w75 ⟨v491, v494, v497, rfl, ho0, ho1, ho2, hb⟩; refine ⟨_, rfl, ?_⟩; have HO492 := Aside0.mk (Kd.R_lower (Kd.R_new' ho0 (ltR1 HO478 BK486)) (below_size oB)); have HO495 := Aside0.mk (Kd.R_lower (Kd.R_new' ho1 (ltR1 HO481 BK486)) (below_size oB)); have HO498 := Aside0.mk (Kd.R_lower (Kd.R_new' ho2 (ltR1 HO484 BK486)) (below_size oB)); replace HO_464000 := tdS3 (olS2 HO_464000 gb486 (fun _ hk => hk.2) hb) (Kd.R_base ho0) (Kd.R_base ho1) (Kd.R_base ho2); replace HO478 := elR1 HO478 BK486 (Kd.R_base ho0) hb; replace HO481 := elR1 HO481 BK486 (Kd.R_base ho1) hb; replace HO484 := elR1 HO484 BK486 (Kd.R_base ho2) hb; replace BK463 := kb_ BK463 hb; replace BK464 := kb_ BK464 hb; replace BK486 := kp_ #[.int .i64 t473, .int .i64 t474, .int .i64 t475, .slice Ao71 t476.length co71, .slice Ao72 t479.length co72, .slice Ao73 t482.length co73] BK486 hb; replace HB := Aside0.mk (below_step oB hb); (try clear hk); (try clear ho1); (try clear ho2)) | ((with_reducible refine gate_dst (N := 10) rfl ?_); refine bx_ 10 #[.int .i64 0, .int .i64 0, .int .i64 0, .slice none 0 0, .slice none 0 0, .slice none 0 0, .string (⟨#[]⟩ : ByteArray)] 84 ?_; intro gb501 hg w76 hbox hb; have BK501 := Aside0.mk (hbox); have GW501 := gs_ hg; have NB463_501 := nl_ hg BK463; have NB501_463 := nr_ hg BK463; have NB464_501 := nl_ hg BK464; have NB501_464 := nr_ hg BK464; have NB486_501 := nl_ hg BK486; have NB501_486 := nr_ hg BK486; replace HO_464000 := beS0 HO_464000 hb; replace HO478 := kr_ HO478 hb; replace HO481 := kr_ HO481 hb; replace HO484 := kr_ HO484 hb; replace HO492 := kr_ HO492 hb; replace HO495 := kr_ HO495 hb; replace HO498 := kr_ HO498 hb; replace BK463 := kb_ BK463 hb; replace BK464 := kb_ BK464 hb; replace BK486 := kb_ BK486 hb; replace HB := Aside0.mk (below_step oB hb); clear hb hbox hg; have hnb77 := NB501_463.out; have hnc77 := NB463_501.out; have hnb78 := NB501_464.out; have hnc78 := NB464_501.out; have hnb79 := NB501_486.out; have hnc79 := NB486_501.out; obtain ⟨⟨_, _, _, _, _, _, _⟩, _, _, _, _, _, _, _⟩ := z7 BK501; obtain ⟨Ao81, co81, eo81⟩ := Kd.R_slice HO492.out; subst eo81; obtain ⟨Ao82, co82, eo82⟩ := Kd.R_slice HO495.out; subst eo82; obtain ⟨Ao83, co83, eo83⟩ := Kd.R_slice HO498.out; subst eo83) | ((with_reducible refine gate_callee (f := 58) rfl ?_); refine gl_ 50 Tryz.func58 (impl_EntOf.calls kj4 t487 t488 t489 _ _ t490 _ _ t493 _ _ t496 t499 t502 _ (rcR1 HO492 BK501) (ko HO492) (rcR1 HO495 BK501) (ko HO495) (rcR1 HO498 BK501) (ko HO498) A35.out) ?_; rintro e w84 ⟨rfl, hb⟩; refine ⟨_, rfl, ?_⟩; replace HO_464000 := beS1 HO_464000 BK501 hb; replace HO478 := beR1 HO478 BK501 hb; replace HO481 := beR1 HO481 BK501 hb; replace HO484 := beR1 HO484 BK501 hb; replace HO492 := beR1 HO492 BK501 hb; replace HO495 := beR1 HO495 BK501 hb; replace HO498 := beR1 HO498 BK501 hb; replace BK463 := kb_ BK463 hb; replace BK464 := kb_ BK464 hb; replace BK486 := kb_ BK486 hb; replace BK501 := kp_ #[.int .i64 t487, .int .i64 t488, .int .i64 t489, .slice Ao81 t490.length co81, .slice Ao82 t493.length co82, .slice Ao83 t496.length co83, .string t499] BK501 hb; replace HB := Aside0.mk (below_step oB hb); (try clear hk); obtain ⟨⟨_, _, _, _, _, _, _⟩, _, _, _, _, _, _, _⟩ := z7 BK501; obtain ⟨⟨_, _, _, _, _, _⟩, _, _, _, _, _, _⟩ := z6 BK486))
        have n0_ : Aside0 (Kd.S k51 51 (w84.setCell ⟨gb486, 2, none⟩ (.int .i64 (wrap64 (t475 + 1)))) w.heap.size (fun k_ => some k_ ≠ (.slice Ao71 t476.length co71 : Value).ownBlock ∧ some k_ ≠ (.slice Ao72 t479.length co72 : Value).ownBlock ∧ some k_ ≠ (.slice Ao73 t482.length co73 : Value).ownBlock ∧ some k_ ≠ (.slice Ao81 t490.length co81 : Value).ownBlock ∧ some k_ ≠ (.slice Ao82 t493.length co82 : Value).ownBlock ∧ some k_ ≠ (.slice Ao83 t496.length co83 : Value).ownBlock ∧ k_ ≠ gb486) (.slice Ao11 t465.length co11) t465) := ⟨by (with_reducible repeat (first | apply Kd.S_alloc | apply Kd.S_drewN | apply Kd.S_drew)); exact Kd.S_mono (Kd.S_far (p := ⟨gb486, 2, none⟩) (Kd.S_mono HO_464000.out (fun k_ hk => (⟨hk, hk.1.1.1.2⟩ : _ ∧ k_ ≠ gb486))) (fun _ hk => hk.2) (.int .i64 (wrap64 (t475 + 1)))) (fun _ hk => ⟨hk.1.1.1.1.1.1.1.2, ⟨hk.1.1.1.1.1.1.2, ⟨hk.1.1.1.1.1.2, ⟨hk.1.1.1.2, ⟨hk.1.1.2, ⟨hk.1.2, hk.1.1.1.1.2⟩⟩⟩⟩⟩⟩)⟩
        have n1_ : Aside0 (Kd.R (Kd.int .u8) 5 (w84.setCell ⟨gb486, 2, none⟩ (.int .i64 (wrap64 (t475 + 1)))) w.heap.size (fun k_ => some k_ ≠ (.slice Ao81 t490.length co81 : Value).ownBlock) (.slice Ao71 t476.length co71) t476) := ⟨by (with_reducible repeat (first | apply Kd.R_alloc | apply Kd.R_drewN | apply Kd.R_drew)); exact Kd.R_mono (Kd.R_far (p := ⟨gb486, 2, none⟩) (Kd.R_types HO478.out BK486.out (by decide)) (fun _ hk => hk.2) (.int .i64 (wrap64 (t475 + 1)))) (fun _ hk => hk.1.2)⟩
        have n2_ : Aside0 (Kd.R k65 65 (w84.setCell ⟨gb486, 2, none⟩ (.int .i64 (wrap64 (t475 + 1)))) w.heap.size (fun k_ => some k_ ≠ (.slice Ao82 t493.length co82 : Value).ownBlock) (.slice Ao72 t479.length co72) t479) := ⟨by (with_reducible repeat (first | apply Kd.R_alloc | apply Kd.R_drewN | apply Kd.R_drew)); exact Kd.R_mono (Kd.R_far (p := ⟨gb486, 2, none⟩) (Kd.R_types HO481.out BK486.out (by decide)) (fun _ hk => hk.2) (.int .i64 (wrap64 (t475 + 1)))) (fun _ hk => hk.1.2)⟩
        have n3_ : Aside0 (Kd.R k71 71 (w84.setCell ⟨gb486, 2, none⟩ (.int .i64 (wrap64 (t475 + 1)))) w.heap.size (fun k_ => some k_ ≠ (.slice Ao83 t496.length co83 : Value).ownBlock) (.slice Ao73 t482.length co73) t482) := ⟨by (with_reducible repeat (first | apply Kd.R_alloc | apply Kd.R_drewN | apply Kd.R_drew)); exact Kd.R_mono (Kd.R_far (p := ⟨gb486, 2, none⟩) (Kd.R_types HO484.out BK486.out (by decide)) (fun _ hk => hk.2) (.int .i64 (wrap64 (t475 + 1)))) (fun _ hk => hk.1.2)⟩
        have n4_ : Aside0 (Kd.R (Kd.int .u8) 5 (w84.setCell ⟨gb486, 2, none⟩ (.int .i64 (wrap64 (t475 + 1)))) w.heap.size (fun k_ => some k_ ≠ (.slice Ao71 t476.length co71 : Value).ownBlock) (.slice Ao81 t490.length co81) t490) := ⟨by (with_reducible repeat (first | apply Kd.R_alloc | apply Kd.R_drewN | apply Kd.R_drew)); exact Kd.R_mono (Kd.R_far (p := ⟨gb486, 2, none⟩) (Kd.R_types HO492.out BK486.out (by decide)) (fun _ hk => hk.2) (.int .i64 (wrap64 (t475 + 1)))) (fun _ hk => hk.1.2)⟩
        have n5_ : Aside0 (Kd.R k65 65 (w84.setCell ⟨gb486, 2, none⟩ (.int .i64 (wrap64 (t475 + 1)))) w.heap.size (fun k_ => some k_ ≠ (.slice Ao72 t479.length co72 : Value).ownBlock) (.slice Ao82 t493.length co82) t493) := ⟨by (with_reducible repeat (first | apply Kd.R_alloc | apply Kd.R_drewN | apply Kd.R_drew)); exact Kd.R_mono (Kd.R_far (p := ⟨gb486, 2, none⟩) (Kd.R_types HO495.out BK486.out (by decide)) (fun _ hk => hk.2) (.int .i64 (wrap64 (t475 + 1)))) (fun _ hk => hk.1.2)⟩
        have n6_ : Aside0 (Kd.R k71 71 (w84.setCell ⟨gb486, 2, none⟩ (.int .i64 (wrap64 (t475 + 1)))) w.heap.size (fun k_ => some k_ ≠ (.slice Ao73 t482.length co73 : Value).ownBlock) (.slice Ao83 t496.length co83) t496) := ⟨by (with_reducible repeat (first | apply Kd.R_alloc | apply Kd.R_drewN | apply Kd.R_drew)); exact Kd.R_mono (Kd.R_far (p := ⟨gb486, 2, none⟩) (Kd.R_types HO498.out BK486.out (by decide)) (fun _ hk => hk.2) (.int .i64 (wrap64 (t475 + 1)))) (fun _ hk => hk.1.2)⟩
        have n7_ : Aside0 ((w84.setCell ⟨gb486, 2, none⟩ (.int .i64 (wrap64 (t475 + 1)))).heap[gb463]? = some (.cells #[.slice Ao11 t465.length co11, .int .i64 t468] 26 (0, 0))) := ⟨oF BK463⟩
        have n8_ : Aside0 ((w84.setCell ⟨gb486, 2, none⟩ (.int .i64 (wrap64 (t475 + 1)))).heap[gb464]? = some (.cells #[.slice none 0 0, .int .i64 0] 26 (0, 0))) := ⟨oF BK464⟩
        have n9_ : Aside0 ((w84.setCell ⟨gb486, 2, none⟩ (.int .i64 (wrap64 (t475 + 1)))).heap[gb486]? = some (.cells #[.int .i64 t473, .int .i64 t474, .int .i64 (wrap64 (t475 + 1)), .slice Ao71 t476.length co71, .slice Ao72 t479.length co72, .slice Ao73 t482.length co73] 51 (0, 0))) := ⟨oP BK486⟩
        have n10_ : Aside0 ((w84.setCell ⟨gb486, 2, none⟩ (.int .i64 (wrap64 (t475 + 1)))).heap[gb501]? = some (.cells #[.int .i64 t487, .int .i64 t488, .int .i64 t489, .slice Ao81 t490.length co81, .slice Ao82 t493.length co82, .slice Ao83 t496.length co83, .string t499] 84 (0, 0))) := ⟨oF BK501⟩
        have n11_ : Aside0 (Below w.heap.size w (w84.setCell ⟨gb486, 2, none⟩ (.int .i64 (wrap64 (t475 + 1))))) := ⟨oB⟩
        (try clear HO_464000)
        (try clear HO478)
        (try clear HO481)
        (try clear HO484)
        (try clear HO492)
        (try clear HO495)
        (try clear HO498)
        (try clear BK463)
        (try clear BK464)
        (try clear BK486)
        (try clear BK501)
        (try clear HB)
        generalize (w84.setCell ⟨gb486, 2, none⟩ (.int .i64 (wrap64 (t475 + 1)))) = w87 at n0_ n1_ n2_ n3_ n4_ n5_ n6_ n7_ n8_ n9_ n10_ n11_ ⊢
        have HO_464000 := n0_
        have HO478 := n1_
        have HO481 := n2_
        have HO484 := n3_
        have HO492 := n4_
        have HO495 := n5_
        have HO498 := n6_
        have BK463 := n7_
        have BK464 := n8_
        have BK486 := n9_
        have BK501 := n10_
        have HB := n11_
        clear n0_ n1_ n2_ n3_ n4_ n5_ n6_ n7_ n8_ n9_ n10_ n11_
        replace HO_464000 := Aside0.mk (Kd.S_drew HO_464000.out)
        replace HO478 := Aside0.mk (Kd.R_drew HO478.out)
        replace HO481 := Aside0.mk (Kd.R_drew HO481.out)
        replace HO484 := Aside0.mk (Kd.R_drew HO484.out)
        replace HO492 := Aside0.mk (Kd.R_drew HO492.out)
        replace HO495 := Aside0.mk (Kd.R_drew HO495.out)
        replace HO498 := Aside0.mk (Kd.R_drew HO498.out)
        replace BK463 := Aside0.mk (blk_drew BK463.out)
        replace BK464 := Aside0.mk (blk_drew BK464.out)
        replace BK486 := Aside0.mk (blk_drew BK486.out)
        replace BK501 := Aside0.mk (blk_drew BK501.out)
        replace HB := Aside0.mk (below_drew1 HB.out)
        refine st_ 9 (fun w' => w'.cell? ⟨gb501, 0, none⟩ = some (.int .i64 t487) ∧ w'.cell? ⟨gb501, 1, none⟩ = some (.int .i64 t488) ∧ w'.cell? ⟨gb501, 2, none⟩ = some (.int .i64 t489) ∧ w'.cell? ⟨gb501, 3, none⟩ = some (.slice Ao81 t490.length co81) ∧ w'.cell? ⟨gb501, 4, none⟩ = some (.slice Ao82 t493.length co82) ∧ w'.cell? ⟨gb501, 5, none⟩ = some (.slice Ao83 t496.length co83) ∧ w'.cell? ⟨gb501, 6, none⟩ = some (.string t499) ∧ w'.cell? ⟨gb463, 0, none⟩ = some (.slice Ao11 t465.length co11) ∧ w'.cell? ⟨gb463, 1, none⟩ = some (.int .i64 t468) ∧ w'.cell? ⟨gb486, 0, none⟩ = some (.int .i64 t473) ∧ w'.cell? ⟨gb486, 1, none⟩ = some (.int .i64 t474) ∧ w'.cell? ⟨gb486, 2, none⟩ = some (.int .i64 (wrap64 (t475 + 1))) ∧ w'.cell? ⟨gb486, 3, none⟩ = some (.slice Ao71 t476.length co71) ∧ w'.cell? ⟨gb486, 4, none⟩ = some (.slice Ao72 t479.length co72) ∧ w'.cell? ⟨gb486, 5, none⟩ = some (.slice Ao73 t482.length co73)) impl_HardLink.tab15 impl_HardLink.bits15 oH (fun hHeld HT_ HW_ => ?_)
        generalize w87.drew = w88 at HO_464000 HO478 HO481 HO484 HO492 HO495 HO498 BK463 BK464 BK486 BK501 HB hHeld ⊢
        refine pu_ 2 66 HT_ ?_
        refine ta_ 0 64 HT_ HW_ hHeld ?_
        refine ta_ 1 65 HT_ HW_ hHeld ?_
        refine ta_ 3 67 HT_ HW_ hHeld ?_
        refine ta_ 5 69 HT_ HW_ hHeld ?_
        refine on_ 4 68 HT_ (fun K hK => ?_)
        refine gr_ 68 Tryz.func59 (impl_spot_enter.calls kj4 t487 t488 t489 _ _ t490 _ _ t493 _ _ t496 t499 _ _ t465 t468 t473 t503 t506 _ (kO HO492) (ko HO492) (kO HO495) (ko HO495) (kO HO498) (ko HO498) (rcS0 HO_464000) (rnS HO_464000) A62.out) ?_
        rintro e w89 ⟨v504, rfl, ho0, hb⟩
        refine ⟨_, rfl, ?_⟩
        have HO505 := Aside0.mk (Kd.S_lower (Kd.S_newB (Kd.S_new' (Kd.S_new' (Kd.S_new' (Kd.S_new' (Kd.S_new' (Kd.S_new' (Kd.S_new' ho0 (ltS0 HO_464000)) (kl_ HO478)) (kl_ HO481)) (kl_ HO484)) (kl_ HO492)) (kl_ HO495)) (kl_ HO498)) (g := gb486) (o := .cells #[.int .i64 t473, .int .i64 t474, .int .i64 (wrap64 (t475 + 1)), .slice Ao71 t476.length co71, .slice Ao72 t479.length co72, .slice Ao73 t482.length co73] 51 (0, 0)) (oF BK486)) (below_size oB))
        replace HO_464000 := elS0 HO_464000 (Kd.S_base ho0) hb
        replace HO478 := kr_ HO478 hb
        replace HO481 := kr_ HO481 hb
        replace HO484 := kr_ HO484 hb
        replace HO492 := kr_ HO492 hb
        replace HO495 := kr_ HO495 hb
        replace HO498 := kr_ HO498 hb
        replace BK463 := kb_ BK463 hb
        replace BK464 := kb_ BK464 hb
        replace BK486 := kb_ BK486 hb
        replace BK501 := kb_ BK501 hb
        replace HB := Aside0.mk (below_step oB hb)
        obtain ⟨Ao90, co90, eo90⟩ := Kd.S_slice HO505.out
        (first | subst eo90 | (injection eo90 with f1_ f2_ f3_; have f4_ := f1_.symm; have f5_ := f3_.symm; clear f1_ f2_ f3_; subst f4_; subst f5_))
        refine hk_ hK 68 oH (fun hHeld => ?_)
        clear hK K
        refine on_ 6 70 HT_ (fun K hK => ?_)
        refine gr_ 70 Tryz.func50 (impl_SetInode.calls kj4 _ _ t503 t506 t473 t474 (wrap64 (t475 + 1)) _ _ t476 _ _ t479 _ _ t482 t507 t510 _ (rcS0 HO505) (rnS HO505) (kO HO478) (ko HO478) (kO HO481) (ko HO481) (kO HO484) (ko HO484) A63.out) ?_
        rintro e w91 ⟨v508, rfl, ho0, hb⟩
        refine ⟨_, rfl, ?_⟩
        have HO509 := Aside0.mk (Kd.S_lower (Kd.S_newB (Kd.S_new' (Kd.S_new' (Kd.S_new' (Kd.S_new' (Kd.S_new' (Kd.S_new' (Kd.S_new' (Kd.S_new' ho0 (ltS0 HO_464000)) (kl_ HO478)) (kl_ HO481)) (kl_ HO484)) (kl_ HO492)) (kl_ HO495)) (kl_ HO498)) (ltS0 HO505)) (g := gb486) (o := .cells #[.int .i64 t473, .int .i64 t474, .int .i64 (wrap64 (t475 + 1)), .slice Ao71 t476.length co71, .slice Ao72 t479.length co72, .slice Ao73 t482.length co73] 51 (0, 0)) (oF BK486)) (below_size oB))
        replace HO_464000 := elS0 HO_464000 (Kd.S_base ho0) hb
        replace HO478 := kr_ HO478 hb
        replace HO481 := kr_ HO481 hb
        replace HO484 := kr_ HO484 hb
        replace HO492 := kr_ HO492 hb
        replace HO495 := kr_ HO495 hb
        replace HO498 := kr_ HO498 hb
        replace HO505 := elS0 HO505 (Kd.S_base ho0) hb
        replace BK463 := kb_ BK463 hb
        replace BK464 := kb_ BK464 hb
        replace BK486 := kb_ BK486 hb
        replace BK501 := kb_ BK501 hb
        replace HB := Aside0.mk (below_step oB hb)
        obtain ⟨Ao92, co92, eo92⟩ := Kd.S_slice HO509.out
        (first | subst eo92 | (injection eo92 with f1_ f2_ f3_; have f4_ := f1_.symm; have f5_ := f3_.symm; clear f1_ f2_ f3_; subst f4_; subst f5_))
        refine hk_ hK 70 oH (fun hHeld => ?_)
        clear hK K
        refine one_ (i := 7) (N := none) (lb 9 255) rfl rfl (one_of HT_.out (by kernel_rfl)) (by decide) (fun K hK => ?_)
        have hs93 : w91.cell? ⟨gb464, 0, none⟩ = some (.slice none 0 0) := (blk_cell BK464.out 0).trans rfl
        have hfs93 := blk_frozen BK464.out 0
        have hns93_0 := NB463_464.out
        have hns93_2 := NB486_464.out
        have hns93_3 := NB501_464.out
        have hms93_0 := NB464_463.out
        have hms93_2 := NB464_486.out
        have hms93_3 := NB464_501.out
        have hs94 : w91.cell? ⟨gb464, 1, none⟩ = some (.int .i64 0) := (blk_cell BK464.out 1).trans rfl
        have hfs94 := blk_frozen BK464.out 1
        have hns94_0 := NB463_464.out
        have hns94_2 := NB486_464.out
        have hns94_3 := NB501_464.out
        have hms94_0 := NB464_463.out
        have hms94_2 := NB464_486.out
        have hms94_3 := NB464_501.out
        refine skip_ (w1 := ?_) (by rfl) rfl ?_ ?_
        rotate_left
        ·go_simp
         rfl
        refine hK.out _ _ ⟨((cell_far (p := ⟨gb464, _, none⟩) NB501_464.out _).trans (((cell_far (p := ⟨gb464, _, none⟩) NB501_464.out _).trans (hHeld.1)))), ((cell_far (p := ⟨gb464, _, none⟩) NB501_464.out _).trans (((cell_far (p := ⟨gb464, _, none⟩) NB501_464.out _).trans (hHeld.2.1)))), ((cell_far (p := ⟨gb464, _, none⟩) NB501_464.out _).trans (((cell_far (p := ⟨gb464, _, none⟩) NB501_464.out _).trans (hHeld.2.2.1)))), ((cell_far (p := ⟨gb464, _, none⟩) NB501_464.out _).trans (((cell_far (p := ⟨gb464, _, none⟩) NB501_464.out _).trans (hHeld.2.2.2.1)))), ((cell_far (p := ⟨gb464, _, none⟩) NB501_464.out _).trans (((cell_far (p := ⟨gb464, _, none⟩) NB501_464.out _).trans (hHeld.2.2.2.2.1)))), ((cell_far (p := ⟨gb464, _, none⟩) NB501_464.out _).trans (((cell_far (p := ⟨gb464, _, none⟩) NB501_464.out _).trans (hHeld.2.2.2.2.2.1)))), ((cell_far (p := ⟨gb464, _, none⟩) NB501_464.out _).trans (((cell_far (p := ⟨gb464, _, none⟩) NB501_464.out _).trans (hHeld.2.2.2.2.2.2.1)))), ((cell_far (p := ⟨gb464, _, none⟩) NB463_464.out _).trans (((cell_far (p := ⟨gb464, _, none⟩) NB463_464.out _).trans (hHeld.2.2.2.2.2.2.2.1)))), ((cell_far (p := ⟨gb464, _, none⟩) NB463_464.out _).trans (((cell_far (p := ⟨gb464, _, none⟩) NB463_464.out _).trans (hHeld.2.2.2.2.2.2.2.2.1)))), ((cell_far (p := ⟨gb464, _, none⟩) NB486_464.out _).trans (((cell_far (p := ⟨gb464, _, none⟩) NB486_464.out _).trans (hHeld.2.2.2.2.2.2.2.2.2.1)))), ((cell_far (p := ⟨gb464, _, none⟩) NB486_464.out _).trans (((cell_far (p := ⟨gb464, _, none⟩) NB486_464.out _).trans (hHeld.2.2.2.2.2.2.2.2.2.2.1)))), ((cell_far (p := ⟨gb464, _, none⟩) NB486_464.out _).trans (((cell_far (p := ⟨gb464, _, none⟩) NB486_464.out _).trans (hHeld.2.2.2.2.2.2.2.2.2.2.2.1)))), ((cell_far (p := ⟨gb464, _, none⟩) NB486_464.out _).trans (((cell_far (p := ⟨gb464, _, none⟩) NB486_464.out _).trans (hHeld.2.2.2.2.2.2.2.2.2.2.2.2.1)))), ((cell_far (p := ⟨gb464, _, none⟩) NB486_464.out _).trans (((cell_far (p := ⟨gb464, _, none⟩) NB486_464.out _).trans (hHeld.2.2.2.2.2.2.2.2.2.2.2.2.2.1)))), ((cell_far (p := ⟨gb464, _, none⟩) NB486_464.out _).trans (((cell_far (p := ⟨gb464, _, none⟩) NB486_464.out _).trans (hHeld.2.2.2.2.2.2.2.2.2.2.2.2.2.2))))⟩ (fun hHeld => ?_)
        clear hK K
        refine pu_ 8 7 HT_ ?_
        refine dn_ HT_ ?_
        try go_wp2
        refine bodyPost_ret (results_ct rfl _ _ gb464 26 #[.slice Ao92 t507.length co92, .int .i64 t510] (0, 0) _ rfl (oP BK464) Tryz.underlying26 rfl (by kernel_rfl)) rfl ?_
        exact ⟨_, oE, by (with_reducible repeat (first | apply Kd.S_alloc | apply Kd.S_drewN | apply Kd.S_drew)); exact Kd.S_mono (Kd.S_far (p := ⟨gb464, 1, none⟩) (Kd.S_far (p := ⟨gb464, 0, none⟩) (Kd.S_types HO509.out BK464.out (by decide)) (fun _ hk => hk.2) (.slice Ao92 t507.length co92)) (fun _ hk => hk.2) (.int .i64 t510)) (fun _ hk => trivial), oB⟩
      ·rw [if_neg c36] at H
       have c36b0 : (t502 == 0) = false := beq_eq_false_iff_ne.mpr c36
       have c36b1 : (t502 != 0) = true := bne_iff_ne.mpr c36
       simp only [Option.some.injEq, Prod.mk.injEq] at H
       obtain ⟨rfl, rfl, rfl⟩ := H
       have hnb95 := NB463_464.out
       have hnc95 := NB464_463.out
       obtain ⟨⟨_, _⟩, _, _⟩ := z2 BK463
       go_wp2_with (first | ((with_reducible refine gate_callee (f := 48) rfl ?_); refine gl_ 27 Tryz.func48 (impl_fileAt.calls kj4 _ _ t465 t468 a1 t473 t474 t475 t476 t479 t482 t485 _ (rcS0 HO_464000) (rnS HO_464000) A31.out) ?_; rintro e w97 ⟨v477, v480, v483, rfl, ho0, ho1, ho2, hb⟩; refine ⟨_, rfl, ?_⟩; have HO478 := Aside0.mk (Kd.R_lower ho0 (below_size oB)); have HO481 := Aside0.mk (Kd.R_lower ho1 (below_size oB)); have HO484 := Aside0.mk (Kd.R_lower ho2 (below_size oB)); replace HO_464000 := tdS3 (olS0 HO_464000 hb) (Kd.R_base ho0) (Kd.R_base ho1) (Kd.R_base ho2); replace BK463 := kb_ BK463 hb; replace BK464 := kb_ BK464 hb; replace HB := Aside0.mk (below_step oB hb); (try clear ho1); (try clear ho2)) | ((with_reducible refine gate_dst (N := 8) rfl ?_); refine bx_ 8 #[.int .i64 0, .int .i64 0, .int .i64 0, .slice none 0 0, .slice none 0 0, .slice none 0 0] 51 ?_; intro gb486 hg w98 hbox hb; have BK486 := Aside0.mk (hbox); have GW486 := gs_ hg; have NB463_486 := nl_ hg BK463; have NB486_463 := nr_ hg BK463; have NB464_486 := nl_ hg BK464; have NB486_464 := nr_ hg BK464; replace HO_464000 := Aside0.mk (Kd.S_below (Kd.S_elderB (nS0 HO_464000) gb486 (Nat.le_of_eq hg.symm)) hb); replace HO478 := kr_ HO478 hb; replace HO481 := kr_ HO481 hb; replace HO484 := kr_ HO484 hb; replace BK463 := kb_ BK463 hb; replace BK464 := kb_ BK464 hb; replace HB := Aside0.mk (below_step oB hb); clear hb hbox hg; have hnb99 := NB486_463.out; have hnc99 := NB463_486.out; have hnb100 := NB486_464.out; have hnc100 := NB464_486.out; obtain ⟨⟨_, _, _, _, _, _⟩, _, _, _, _, _, _⟩ := z6 BK486; obtain ⟨Ao102, co102, eo102⟩ := Kd.R_slice HO478.out; subst eo102; obtain ⟨Ao103, co103, eo103⟩ := Kd.R_slice HO481.out; subst eo103; obtain ⟨Ao104, co104, eo104⟩ := Kd.R_slice HO484.out; subst eo104; obtain ⟨⟨_, _⟩, _, _⟩ := z2 BK463) | ((with_reducible refine gate_callee (f := 57) rfl ?_); refine gl_ 37 Tryz.func57 (impl_spotOf.calls kj4 _ _ t465 t468 a2 t487 t488 t489 t490 t493 t496 t499 t500 _ (rcS2 HO_464000 gb486 (fun _ hk => hk.2)) (rnS HO_464000) A33.out) ?_; rintro e w106 ⟨v491, v494, v497, rfl, ho0, ho1, ho2, hb⟩; refine ⟨_, rfl, ?_⟩; have HO492 := Aside0.mk (Kd.R_lower (Kd.R_new' ho0 (ltR1 HO478 BK486)) (below_size oB)); have HO495 := Aside0.mk (Kd.R_lower (Kd.R_new' ho1 (ltR1 HO481 BK486)) (below_size oB)); have HO498 := Aside0.mk (Kd.R_lower (Kd.R_new' ho2 (ltR1 HO484 BK486)) (below_size oB)); replace HO_464000 := tdS3 (olS2 HO_464000 gb486 (fun _ hk => hk.2) hb) (Kd.R_base ho0) (Kd.R_base ho1) (Kd.R_base ho2); replace HO478 := elR1 HO478 BK486 (Kd.R_base ho0) hb; replace HO481 := elR1 HO481 BK486 (Kd.R_base ho1) hb; replace HO484 := elR1 HO484 BK486 (Kd.R_base ho2) hb; replace BK463 := kb_ BK463 hb; replace BK464 := kb_ BK464 hb; replace BK486 := kp_ #[.int .i64 t473, .int .i64 t474, .int .i64 t475, .slice Ao102 t476.length co102, .slice Ao103 t479.length co103, .slice Ao104 t482.length co104] BK486 hb; replace HB := Aside0.mk (below_step oB hb); (try clear hk); (try clear ho1); (try clear ho2)) | ((with_reducible refine gate_dst (N := 10) rfl ?_); refine bx_ 10 #[.int .i64 0, .int .i64 0, .int .i64 0, .slice none 0 0, .slice none 0 0, .slice none 0 0, .string (⟨#[]⟩ : ByteArray)] 84 ?_; intro gb501 hg w107 hbox hb; have BK501 := Aside0.mk (hbox); have GW501 := gs_ hg; have NB463_501 := nl_ hg BK463; have NB501_463 := nr_ hg BK463; have NB464_501 := nl_ hg BK464; have NB501_464 := nr_ hg BK464; have NB486_501 := nl_ hg BK486; have NB501_486 := nr_ hg BK486; replace HO_464000 := beS0 HO_464000 hb; replace HO478 := kr_ HO478 hb; replace HO481 := kr_ HO481 hb; replace HO484 := kr_ HO484 hb; replace HO492 := kr_ HO492 hb; replace HO495 := kr_ HO495 hb; replace HO498 := kr_ HO498 hb; replace BK463 := kb_ BK463 hb; replace BK464 := kb_ BK464 hb; replace BK486 := kb_ BK486 hb; replace HB := Aside0.mk (below_step oB hb); clear hb hbox hg; have hnb108 := NB501_463.out; have hnc108 := NB463_501.out; have hnb109 := NB501_464.out; have hnc109 := NB464_501.out; have hnb110 := NB501_486.out; have hnc110 := NB486_501.out; obtain ⟨⟨_, _, _, _, _, _, _⟩, _, _, _, _, _, _, _⟩ := z7 BK501; obtain ⟨Ao112, co112, eo112⟩ := Kd.R_slice HO492.out; subst eo112; obtain ⟨Ao113, co113, eo113⟩ := Kd.R_slice HO495.out; subst eo113; obtain ⟨Ao114, co114, eo114⟩ := Kd.R_slice HO498.out; subst eo114) | ((with_reducible refine gate_callee (f := 58) rfl ?_); refine gl_ 50 Tryz.func58 (impl_EntOf.calls kj4 t487 t488 t489 _ _ t490 _ _ t493 _ _ t496 t499 t502 _ (rcR1 HO492 BK501) (ko HO492) (rcR1 HO495 BK501) (ko HO495) (rcR1 HO498 BK501) (ko HO498) A35.out) ?_; rintro e w115 ⟨rfl, hb⟩; refine ⟨_, rfl, ?_⟩; replace HO_464000 := beS1 HO_464000 BK501 hb; replace HO478 := beR1 HO478 BK501 hb; replace HO481 := beR1 HO481 BK501 hb; replace HO484 := beR1 HO484 BK501 hb; replace HO492 := beR1 HO492 BK501 hb; replace HO495 := beR1 HO495 BK501 hb; replace HO498 := beR1 HO498 BK501 hb; replace BK463 := kb_ BK463 hb; replace BK464 := kb_ BK464 hb; replace BK486 := kb_ BK486 hb; replace BK501 := kp_ #[.int .i64 t487, .int .i64 t488, .int .i64 t489, .slice Ao112 t490.length co112, .slice Ao113 t493.length co113, .slice Ao114 t496.length co114, .string t499] BK501 hb; replace HB := Aside0.mk (below_step oB hb); (try clear hk); obtain ⟨⟨_, _⟩, _, _⟩ := z2 BK463; obtain ⟨⟨_, _⟩, _, _⟩ := z2 BK464))
       refine bodyPost_ret (results_ct rfl _ _ gb464 26 #[.slice Ao11 t465.length co11, .int .i64 t468] (0, 0) _ rfl (oP BK464) Tryz.underlying26 rfl (by kernel_rfl)) rfl ?_
       exact ⟨_, oE, by (with_reducible repeat (first | apply Kd.S_alloc | apply Kd.S_drewN | apply Kd.S_drew)); exact Kd.S_mono (Kd.S_far (p := ⟨gb464, 1, none⟩) (Kd.S_far (p := ⟨gb464, 0, none⟩) (Kd.S_types HO_464000.out BK464.out (by decide)) (fun _ hk => hk.2) (.slice Ao11 t465.length co11)) (fun _ hk => hk.2) (.int .i64 t468)) (fun _ hk => trivial), oB⟩
     ·rw [if_neg c34] at H
      have c34b0 : (t500 == 0) = false := beq_eq_false_iff_ne.mpr c34
      have c34b1 : (t500 != 0) = true := bne_iff_ne.mpr c34
      simp only [Option.some.injEq, Prod.mk.injEq] at H
      obtain ⟨rfl, rfl, rfl⟩ := H
      have hnb118 := NB463_464.out
      have hnc118 := NB464_463.out
      obtain ⟨⟨_, _⟩, _, _⟩ := z2 BK463
      go_wp2_with (first | ((with_reducible refine gate_callee (f := 48) rfl ?_); refine gl_ 27 Tryz.func48 (impl_fileAt.calls kj4 _ _ t465 t468 a1 t473 t474 t475 t476 t479 t482 t485 _ (rcS0 HO_464000) (rnS HO_464000) A31.out) ?_; rintro e w120 ⟨v477, v480, v483, rfl, ho0, ho1, ho2, hb⟩; refine ⟨_, rfl, ?_⟩; have HO478 := Aside0.mk (Kd.R_lower ho0 (below_size oB)); have HO481 := Aside0.mk (Kd.R_lower ho1 (below_size oB)); have HO484 := Aside0.mk (Kd.R_lower ho2 (below_size oB)); replace HO_464000 := tdS3 (olS0 HO_464000 hb) (Kd.R_base ho0) (Kd.R_base ho1) (Kd.R_base ho2); replace BK463 := kb_ BK463 hb; replace BK464 := kb_ BK464 hb; replace HB := Aside0.mk (below_step oB hb); (try clear ho1); (try clear ho2)) | ((with_reducible refine gate_dst (N := 8) rfl ?_); refine bx_ 8 #[.int .i64 0, .int .i64 0, .int .i64 0, .slice none 0 0, .slice none 0 0, .slice none 0 0] 51 ?_; intro gb486 hg w121 hbox hb; have BK486 := Aside0.mk (hbox); have GW486 := gs_ hg; have NB463_486 := nl_ hg BK463; have NB486_463 := nr_ hg BK463; have NB464_486 := nl_ hg BK464; have NB486_464 := nr_ hg BK464; replace HO_464000 := Aside0.mk (Kd.S_below (Kd.S_elderB (nS0 HO_464000) gb486 (Nat.le_of_eq hg.symm)) hb); replace HO478 := kr_ HO478 hb; replace HO481 := kr_ HO481 hb; replace HO484 := kr_ HO484 hb; replace BK463 := kb_ BK463 hb; replace BK464 := kb_ BK464 hb; replace HB := Aside0.mk (below_step oB hb); clear hb hbox hg; have hnb122 := NB486_463.out; have hnc122 := NB463_486.out; have hnb123 := NB486_464.out; have hnc123 := NB464_486.out; obtain ⟨⟨_, _, _, _, _, _⟩, _, _, _, _, _, _⟩ := z6 BK486; obtain ⟨Ao125, co125, eo125⟩ := Kd.R_slice HO478.out; subst eo125; obtain ⟨Ao126, co126, eo126⟩ := Kd.R_slice HO481.out; subst eo126; obtain ⟨Ao127, co127, eo127⟩ := Kd.R_slice HO484.out; subst eo127; obtain ⟨⟨_, _⟩, _, _⟩ := z2 BK463) | ((with_reducible refine gate_callee (f := 57) rfl ?_); refine gl_ 37 Tryz.func57 (impl_spotOf.calls kj4 _ _ t465 t468 a2 t487 t488 t489 t490 t493 t496 t499 t500 _ (rcS2 HO_464000 gb486 (fun _ hk => hk.2)) (rnS HO_464000) A33.out) ?_; rintro e w129 ⟨v491, v494, v497, rfl, ho0, ho1, ho2, hb⟩; refine ⟨_, rfl, ?_⟩; have HO492 := Aside0.mk (Kd.R_lower (Kd.R_new' ho0 (ltR1 HO478 BK486)) (below_size oB)); have HO495 := Aside0.mk (Kd.R_lower (Kd.R_new' ho1 (ltR1 HO481 BK486)) (below_size oB)); have HO498 := Aside0.mk (Kd.R_lower (Kd.R_new' ho2 (ltR1 HO484 BK486)) (below_size oB)); replace HO_464000 := tdS3 (olS2 HO_464000 gb486 (fun _ hk => hk.2) hb) (Kd.R_base ho0) (Kd.R_base ho1) (Kd.R_base ho2); replace HO478 := elR1 HO478 BK486 (Kd.R_base ho0) hb; replace HO481 := elR1 HO481 BK486 (Kd.R_base ho1) hb; replace HO484 := elR1 HO484 BK486 (Kd.R_base ho2) hb; replace BK463 := kb_ BK463 hb; replace BK464 := kb_ BK464 hb; replace BK486 := kp_ #[.int .i64 t473, .int .i64 t474, .int .i64 t475, .slice Ao125 t476.length co125, .slice Ao126 t479.length co126, .slice Ao127 t482.length co127] BK486 hb; replace HB := Aside0.mk (below_step oB hb); (try clear hk); (try clear ho1); (try clear ho2)) | ((with_reducible refine gate_dst (N := 10) rfl ?_); refine bx_ 10 #[.int .i64 0, .int .i64 0, .int .i64 0, .slice none 0 0, .slice none 0 0, .slice none 0 0, .string (⟨#[]⟩ : ByteArray)] 84 ?_; intro gb501 hg w130 hbox hb; have BK501 := Aside0.mk (hbox); have GW501 := gs_ hg; have NB463_501 := nl_ hg BK463; have NB501_463 := nr_ hg BK463; have NB464_501 := nl_ hg BK464; have NB501_464 := nr_ hg BK464; have NB486_501 := nl_ hg BK486; have NB501_486 := nr_ hg BK486; replace HO_464000 := beS0 HO_464000 hb; replace HO478 := kr_ HO478 hb; replace HO481 := kr_ HO481 hb; replace HO484 := kr_ HO484 hb; replace HO492 := kr_ HO492 hb; replace HO495 := kr_ HO495 hb; replace HO498 := kr_ HO498 hb; replace BK463 := kb_ BK463 hb; replace BK464 := kb_ BK464 hb; replace BK486 := kb_ BK486 hb; replace HB := Aside0.mk (below_step oB hb); clear hb hbox hg; have hnb131 := NB501_463.out; have hnc131 := NB463_501.out; have hnb132 := NB501_464.out; have hnc132 := NB464_501.out; have hnb133 := NB501_486.out; have hnc133 := NB486_501.out; obtain ⟨⟨_, _, _, _, _, _, _⟩, _, _, _, _, _, _, _⟩ := z7 BK501; obtain ⟨Ao135, co135, eo135⟩ := Kd.R_slice HO492.out; subst eo135; obtain ⟨Ao136, co136, eo136⟩ := Kd.R_slice HO495.out; subst eo136; obtain ⟨Ao137, co137, eo137⟩ := Kd.R_slice HO498.out; subst eo137; obtain ⟨⟨_, _⟩, _, _⟩ := z2 BK463; obtain ⟨⟨_, _⟩, _, _⟩ := z2 BK464))
      refine bodyPost_ret (results_ct rfl _ _ gb464 26 #[.slice Ao11 t465.length co11, .int .i64 t468] (0, 0) _ rfl (oP BK464) Tryz.underlying26 rfl (by kernel_rfl)) rfl ?_
      exact ⟨_, oE, by (with_reducible repeat (first | apply Kd.S_alloc | apply Kd.S_drewN | apply Kd.S_drew)); exact Kd.S_mono (Kd.S_far (p := ⟨gb464, 1, none⟩) (Kd.S_far (p := ⟨gb464, 0, none⟩) (Kd.S_far (p := ⟨gb501, 6, none⟩) (Kd.S_far (p := ⟨gb501, 5, none⟩) (Kd.S_far (p := ⟨gb501, 4, none⟩) (Kd.S_far (p := ⟨gb501, 3, none⟩) (Kd.S_far (p := ⟨gb501, 2, none⟩) (Kd.S_far (p := ⟨gb501, 1, none⟩) (Kd.S_far (p := ⟨gb501, 0, none⟩) (Kd.S_types (Kd.S_types HO_464000.out BK501.out (by decide)) BK464.out (by decide)) (fun _ hk => hk.1.2) (.int .i64 t487)) (fun _ hk => hk.1.2) (.int .i64 t488)) (fun _ hk => hk.1.2) (.int .i64 t489)) (fun _ hk => hk.1.2) (.slice Ao135 t490.length co135)) (fun _ hk => hk.1.2) (.slice Ao136 t493.length co136)) (fun _ hk => hk.1.2) (.slice Ao137 t496.length co137)) (fun _ hk => hk.1.2) (.string t499)) (fun _ hk => hk.2) (.slice Ao11 t465.length co11)) (fun _ hk => hk.2) (.int .i64 t468)) (fun _ hk => trivial), oB⟩
    ·rw [if_neg c32] at H
     have c32b0 : (t485 == 0) = false := beq_eq_false_iff_ne.mpr c32
     have c32b1 : (t485 != 0) = true := bne_iff_ne.mpr c32
     simp only [Option.some.injEq, Prod.mk.injEq] at H
     obtain ⟨rfl, rfl, rfl⟩ := H
     have hnb140 := NB463_464.out
     have hnc140 := NB464_463.out
     obtain ⟨⟨_, _⟩, _, _⟩ := z2 BK463
     go_wp2_with (first | ((with_reducible refine gate_callee (f := 48) rfl ?_); refine gl_ 27 Tryz.func48 (impl_fileAt.calls kj4 _ _ t465 t468 a1 t473 t474 t475 t476 t479 t482 t485 _ (rcS0 HO_464000) (rnS HO_464000) A31.out) ?_; rintro e w142 ⟨v477, v480, v483, rfl, ho0, ho1, ho2, hb⟩; refine ⟨_, rfl, ?_⟩; have HO478 := Aside0.mk (Kd.R_lower ho0 (below_size oB)); have HO481 := Aside0.mk (Kd.R_lower ho1 (below_size oB)); have HO484 := Aside0.mk (Kd.R_lower ho2 (below_size oB)); replace HO_464000 := tdS3 (olS0 HO_464000 hb) (Kd.R_base ho0) (Kd.R_base ho1) (Kd.R_base ho2); replace BK463 := kb_ BK463 hb; replace BK464 := kb_ BK464 hb; replace HB := Aside0.mk (below_step oB hb); (try clear ho1); (try clear ho2)) | ((with_reducible refine gate_dst (N := 8) rfl ?_); refine bx_ 8 #[.int .i64 0, .int .i64 0, .int .i64 0, .slice none 0 0, .slice none 0 0, .slice none 0 0] 51 ?_; intro gb486 hg w143 hbox hb; have BK486 := Aside0.mk (hbox); have GW486 := gs_ hg; have NB463_486 := nl_ hg BK463; have NB486_463 := nr_ hg BK463; have NB464_486 := nl_ hg BK464; have NB486_464 := nr_ hg BK464; replace HO_464000 := Aside0.mk (Kd.S_below (Kd.S_elderB (nS0 HO_464000) gb486 (Nat.le_of_eq hg.symm)) hb); replace HO478 := kr_ HO478 hb; replace HO481 := kr_ HO481 hb; replace HO484 := kr_ HO484 hb; replace BK463 := kb_ BK463 hb; replace BK464 := kb_ BK464 hb; replace HB := Aside0.mk (below_step oB hb); clear hb hbox hg; have hnb144 := NB486_463.out; have hnc144 := NB463_486.out; have hnb145 := NB486_464.out; have hnc145 := NB464_486.out; obtain ⟨⟨_, _, _, _, _, _⟩, _, _, _, _, _, _⟩ := z6 BK486; obtain ⟨Ao147, co147, eo147⟩ := Kd.R_slice HO478.out; subst eo147; obtain ⟨Ao148, co148, eo148⟩ := Kd.R_slice HO481.out; subst eo148; obtain ⟨Ao149, co149, eo149⟩ := Kd.R_slice HO484.out; subst eo149; obtain ⟨⟨_, _⟩, _, _⟩ := z2 BK463; obtain ⟨⟨_, _⟩, _, _⟩ := z2 BK464))
     refine bodyPost_ret (results_ct rfl _ _ gb464 26 #[.slice Ao11 t465.length co11, .int .i64 t468] (0, 0) _ rfl (oP BK464) Tryz.underlying26 rfl (by kernel_rfl)) rfl ?_
     exact ⟨_, oE, by (with_reducible repeat (first | apply Kd.S_alloc | apply Kd.S_drewN | apply Kd.S_drew)); exact Kd.S_mono (Kd.S_far (p := ⟨gb464, 1, none⟩) (Kd.S_far (p := ⟨gb464, 0, none⟩) (Kd.S_far (p := ⟨gb486, 5, none⟩) (Kd.S_far (p := ⟨gb486, 4, none⟩) (Kd.S_far (p := ⟨gb486, 3, none⟩) (Kd.S_far (p := ⟨gb486, 2, none⟩) (Kd.S_far (p := ⟨gb486, 1, none⟩) (Kd.S_far (p := ⟨gb486, 0, none⟩) (Kd.S_types (Kd.S_mono HO_464000.out (fun k_ hk => (⟨hk, hk.2⟩ : _ ∧ k_ ≠ gb486))) BK464.out (by decide)) (fun _ hk => hk.1.2) (.int .i64 t473)) (fun _ hk => hk.1.2) (.int .i64 t474)) (fun _ hk => hk.1.2) (.int .i64 t475)) (fun _ hk => hk.1.2) (.slice Ao147 t476.length co147)) (fun _ hk => hk.1.2) (.slice Ao148 t479.length co148)) (fun _ hk => hk.1.2) (.slice Ao149 t482.length co149)) (fun _ hk => hk.2) (.slice Ao11 t465.length co11)) (fun _ hk => hk.2) (.int .i64 t468)) (fun _ hk => trivial), oB⟩

/-! ### impl_Unlink: function 29 -/
def impl_Unlink.j0 : Nat → ByteArray → Bool → List (S51) → Int → Option ((List (S51)) × Int × Int)
 | 0, _, _, _, _ => none
 | k + 1, x1, x20, x512000, x512001 => if x20 = true then (some (x512000, x512001, 1)) else ((impl_fileAt.f k x512000 x512001 x1).bind fun bt521 => (if bt521.2.2.2.2.2.2 = 0 then ((impl_spotOf.f k x512000 x512001 x1).bind fun bt535 => ((impl_spot_leave.f k bt535.1 bt535.2.1 bt535.2.2.1 bt535.2.2.2.1 bt535.2.2.2.2.1 bt535.2.2.2.2.2.1 bt535.2.2.2.2.2.2.1 x512000 x512001).bind fun bt550 => (if (wrap64 (bt521.2.2.1 - 1)) = 0 then ((impl_DropInode.f k bt550.1 bt550.2 bt521.1).bind fun bt554 => (some (bt554.1, bt554.2, 0))) else ((impl_SetInode.f k bt550.1 bt550.2 bt521.1 bt521.2.1 (wrap64 (bt521.2.2.1 - 1)) bt521.2.2.2.1 bt521.2.2.2.2.1 bt521.2.2.2.2.2.1).bind fun bt558 => (some (bt558.1, bt558.2, 0)))))) else (some (x512000, x512001, bt521.2.2.2.2.2.2))))
def impl_Unlink.f (k : Nat) (l0_0 : List (S51)) (a0_1 : Int) (a1 : ByteArray) : Option ((List (S51)) × Int × Int) := (impl_copyTab.f k l0_0 a0_1).bind fun bt513 => ((impl_ready.f k bt513.1 bt513.2 (([a1] : List ByteArray))).bind fun t520 => (if t520 = true then (impl_Unlink.j0 k a1 (a1.toList == ([47] : List UInt8)) bt513.1 bt513.2) else (impl_Unlink.j0 k a1 true bt513.1 bt513.2)))
set_option maxHeartbeats 8000000 in
set_option maxRecDepth 100000 in
theorem impl_Unlink.calls (k : Nat) (A0_0 : Option Addr) (c0_0 : Nat) (l0_0 : List (S51)) (a0_1 : Int) (a1 : ByteArray) (r1 : List (S51)) (r2 : Int) (r3 : Int) (w : World) (hr0_0 : Kd.C k51 w A0_0 l0_0.length l0_0) (hc0_0 : l0_0.length ≤ c0_0) (h : impl_Unlink.f k l0_0 a0_1 a1 = some (r1, r2, r3)) (hG : GOk w := by exact gk_ oB (by first | (with_reducible assumption) | assumption)) :
  Calls Tryz.prog 29 #[.agg #[.slice A0_0 l0_0.length c0_0, .int .i64 a0_1], .string a1] w fun e w' => ∃ v0_ : Value, e = .returned (.tuple #[.agg #[v0_, .int .i64 r2], .int .i64 r3]) ∧ Kd.S k51 51 w' w.heap.size (fun _ => True) v0_ r1 ∧ Below w.heap.size w w' := by
 have HG := Aside0.mk hG
 clear hG
 have hu26 := Tryz.underlying26
 have hu51 := Tryz.underlying51
 have hu84 := Tryz.underlying84
 have HR0_0 := Aside0.mk hr0_0
 have HC0_0 := Aside0.mk hc0_0
 clear hr0_0 hc0_0
 have HB := Aside0.mk (Below.refl w.heap.size w)
 unfold impl_Unlink.f at h
 have H := h
 clear h
 replace H := bA H
 obtain ⟨⟨t513, t516⟩, A3, H⟩ := H
 try dsimp only at H
 have HC4 := Aside0.mk H
 clear H
 go_enter Tryz.func29, Tryz.ntmps29
 go_upto_region 2 with (first | ((with_reducible refine gate_dst (N := 2) rfl ?_); refine bx_ 2 #[.slice A0_0 l0_0.length c0_0, .int .i64 a0_1] 26 ?_; intro gb511 hg w5 hbox hb; have BK511 := Aside0.mk (hbox); have GW511 := gs_ hg; replace HB := Aside0.mk (below_step oB hb); clear hb hbox hg) | ((with_reducible refine gate_dst (N := 4) rfl ?_); refine bx_ 4 #[.slice none 0 0, .int .i64 0] 26 ?_; intro gb512 hg w6 hbox hb; have BK512 := Aside0.mk (hbox); have GW512 := gs_ hg; have NB511_512 := nl_ hg BK511; have NB512_511 := nr_ hg BK511; replace BK511 := kb_ BK511 hb; replace HB := Aside0.mk (below_step oB hb); clear hb hbox hg; have hnb7 := NB511_512.out; have hnc7 := NB512_511.out; obtain ⟨⟨_, _⟩, _, _⟩ := z2 BK511) | ((with_reducible refine gate_callee (f := 45) rfl ?_); refine gl_ 11 Tryz.func45 (impl_copyTab.calls k _ _ l0_0 a0_1 t513 t516 _ (kC HR0_0) HC0_0.out A3.out) ?_; rintro e w9 ⟨v514, rfl, ho0, hb⟩; refine ⟨_, rfl, ?_⟩; have HO515 := Aside0.mk (Kd.S_lower ho0 (below_size oB)); replace BK511 := kb_ BK511 hb; replace BK512 := kb_ BK512 hb; replace HB := Aside0.mk (below_step oB hb); obtain ⟨Ao10, co10, eo10⟩ := Kd.S_slice HO515.out; subst eo10; obtain ⟨⟨_, _⟩, _, _⟩ := z2 BK511))
 (try simp only [Act.put, List.setIfInBounds_toArray, List.set_cons_zero, List.set_cons_succ])
 go_cut [20] (fun v20 wc => ∃ (kq : Nat) (x20_3 : Bool), v20 = .bool x20_3 ∧ Aside0 (impl_Unlink.j0 kq a1 x20_3 t513 t516 = some (r1, r2, r3)) ∧ Aside0 (kq ≤ k) ∧ Aside0 (Kd.S k51 51 wc w.heap.size (fun _ => True) (.slice Ao10 t513.length co10) t513) ∧ Aside0 (wc.heap[gb511]? = some (.cells #[(.slice Ao10 t513.length co10), .int .i64 t516] 26 (0, 0))) ∧ Aside0 (wc.heap[gb512]? = some (.cells #[(.slice none 0 0), .int .i64 0] 26 (0, 0))) ∧ Aside0 (Below w.heap.size w wc))
 case first =>
  have H := HC4.out
  clear HC4
  obtain ⟨y517, hy517⟩ : ∃ y_ : List ByteArray, y_ = (([a1] : List ByteArray)) := ⟨_, rfl⟩
  replace H : ((impl_ready.f k t513 t516 y517).bind fun t520 => (if t520 = true then (impl_Unlink.j0 k a1 (a1.toList == ([47] : List UInt8)) t513 t516) else (impl_Unlink.j0 k a1 true t513 t516))) = some (r1, r2, r3) := by first | (rw [hy517]; with_reducible exact H) | (have H2_ := (Option.bind_some _ _).symm.trans H; rw [hy517]; with_reducible exact H2_) | (have H2_ := (Option.bind_some _ _).symm.trans H; with_reducible exact H2_) | with_reducible exact H | (rw [hy517]; exact H) | exact H
  have Ny517 := Aside0.mk hy517
  clear hy517
  replace H := bA H
  obtain ⟨t520, A12, H⟩ := H
  try dsimp only at H
  replace H := itB H
  rcases H with ⟨rfl, H⟩ | ⟨rfl, H⟩
  ·have H' := Aside0.mk H
   clear H
   have hnb14 := NB511_512.out
   have hnc14 := NB512_511.out
   obtain ⟨⟨_, _⟩, _, _⟩ := z2 BK511
   go_wp2_with (first | ((with_reducible refine gate_dst (N := 14) rfl ?_); refine Kd.R_lit Kd.string _ 9 ?hg (N := 14) ?hd (xs := ([a1] : List ByteArray)) (inner := [.string a1]) (ok := fun _ => True) (okp := fun _ => True) ?hr ?hp (fun _ hk => hk) trivial (Below.refl _ _) (Nat.le_refl _) (by simp) ?_; (case hd => rfl); (case hg => rfl); (case hr => first | (go_simp; done) | (go_simp; rfl)); (case hp => exact (Reps.one (show Kd.M Kd.string _ _ _ a1 [.string a1] from rfl) (Reps.none _ _))); intro v518 w16 ho17 hb hg_ hnew_; clear hg_ hnew_; (first | rw [← Ny517.out] at ho17 | (simp only [Int.reduceToNat] at ho17; rw [← Ny517.out] at ho17)); have HO519 := Aside0.mk (Kd.R_lower ho17 (below_size oB)); replace HO515 := beS1 HO515 BK511 hb; replace BK511 := kp_ #[.slice Ao10 t513.length co10, .int .i64 t516] BK511 hb; replace BK512 := kb_ BK512 hb; replace HB := Aside0.mk (below_step oB hb); clear hb ho17; obtain ⟨Ao18, co18, eo18⟩ := Kd.R_slice HO519.out; subst eo18) | ((with_reducible refine gate_callee (f := 46) rfl ?_); refine gl_ 15 Tryz.func46 (impl_ready.calls k _ _ t513 t516 _ _ y517 true _ (rcS0 HO515) (rnS HO515) (kO HO519) (ko HO519) A12.out) ?_; rintro e w19 ⟨rfl, hb⟩; refine ⟨_, rfl, ?_⟩; replace HO515 := beS0 HO515 hb; replace HO519 := kr_ HO519 hb; replace BK511 := kb_ BK511 hb; replace BK512 := kb_ BK512 hb; replace HB := Aside0.mk (below_step oB hb)))
   go_meet
   case rel => exact ⟨_, ((a1.toList == ([47] : List UInt8))), oS, H', ⟨by first | omega | exact Nat.le_refl _⟩, ⟨by (with_reducible repeat (first | apply Kd.S_alloc | apply Kd.S_drewN | apply Kd.S_drew)); exact HO515.out⟩, ⟨oF BK511⟩, ⟨oF BK512⟩, ⟨oB⟩⟩
  ·have H' := Aside0.mk H
   clear H
   have hnb20 := NB511_512.out
   have hnc20 := NB512_511.out
   obtain ⟨⟨_, _⟩, _, _⟩ := z2 BK511
   go_wp2_with (first | ((with_reducible refine gate_dst (N := 14) rfl ?_); refine Kd.R_lit Kd.string _ 9 ?hg (N := 14) ?hd (xs := ([a1] : List ByteArray)) (inner := [.string a1]) (ok := fun _ => True) (okp := fun _ => True) ?hr ?hp (fun _ hk => hk) trivial (Below.refl _ _) (Nat.le_refl _) (by simp) ?_; (case hd => rfl); (case hg => rfl); (case hr => first | (go_simp; done) | (go_simp; rfl)); (case hp => exact (Reps.one (show Kd.M Kd.string _ _ _ a1 [.string a1] from rfl) (Reps.none _ _))); intro v518 w22 ho23 hb hg_ hnew_; clear hg_ hnew_; (first | rw [← Ny517.out] at ho23 | (simp only [Int.reduceToNat] at ho23; rw [← Ny517.out] at ho23)); have HO519 := Aside0.mk (Kd.R_lower ho23 (below_size oB)); replace HO515 := beS1 HO515 BK511 hb; replace BK511 := kp_ #[.slice Ao10 t513.length co10, .int .i64 t516] BK511 hb; replace BK512 := kb_ BK512 hb; replace HB := Aside0.mk (below_step oB hb); clear hb ho23; obtain ⟨Ao24, co24, eo24⟩ := Kd.R_slice HO519.out; subst eo24) | ((with_reducible refine gate_callee (f := 46) rfl ?_); refine gl_ 15 Tryz.func46 (impl_ready.calls k _ _ t513 t516 _ _ y517 false _ (rcS0 HO515) (rnS HO515) (kO HO519) (ko HO519) A12.out) ?_; rintro e w25 ⟨rfl, hb⟩; refine ⟨_, rfl, ?_⟩; replace HO515 := beS0 HO515 hb; replace HO519 := kr_ HO519 hb; replace BK511 := kb_ BK511 hb; replace BK512 := kb_ BK512 hb; replace HB := Aside0.mk (below_step oB hb)))
   go_meet
   case rel => exact ⟨_, (true), oS, H', ⟨by first | omega | exact Nat.le_refl _⟩, ⟨by (with_reducible repeat (first | apply Kd.S_alloc | apply Kd.S_drewN | apply Kd.S_drew)); exact HO515.out⟩, ⟨oF BK511⟩, ⟨oF BK512⟩, ⟨oB⟩⟩
 case rest =>
  clear HC4
  obtain ⟨kq, x20_3, rfl, HA, HJ3, HO_512000, BK511, BK512, HB⟩ := hcut
  cases kq with
  | zero => exact absurd HA.out (by simp [impl_Unlink.j0])
  | succ kj3 =>
   have H := HA.out
   clear HA
   simp only [impl_Unlink.j0] at H
   replace H := itB H
   rcases H with ⟨rfl, H⟩ | ⟨rfl, H⟩
   ·simp only [Option.some.injEq, Prod.mk.injEq] at H
    obtain ⟨rfl, rfl, rfl⟩ := H
    have hnb27 := NB511_512.out
    have hnc27 := NB512_511.out
    obtain ⟨⟨_, _⟩, _, _⟩ := z2 BK511
    obtain ⟨⟨_, _⟩, _, _⟩ := z2 BK512
    go_wp2
    refine bodyPost_ret (results_ct rfl _ _ gb512 26 #[.slice Ao10 t513.length co10, .int .i64 t516] (0, 0) _ rfl (oP BK512) Tryz.underlying26 rfl (by kernel_rfl)) rfl ?_
    exact ⟨_, oE, by (with_reducible repeat (first | apply Kd.S_alloc | apply Kd.S_drewN | apply Kd.S_drew)); exact Kd.S_mono (Kd.S_far (p := ⟨gb512, 1, none⟩) (Kd.S_far (p := ⟨gb512, 0, none⟩) (Kd.S_types HO_512000.out BK512.out (by decide)) (fun _ hk => hk.2) (.slice Ao10 t513.length co10)) (fun _ hk => hk.2) (.int .i64 t516)) (fun _ hk => trivial), oB⟩
   ·replace H := bA H
    obtain ⟨⟨t521, t522, t523, t524, t527, t530, t533⟩, A30, H⟩ := H
    try dsimp only at H
    by_cases c31 : t533 = 0
    ·rw [if_pos c31] at H
     have c31b0 : (t533 == 0) = true := beq_iff_eq.mpr c31
     have c31b1 : (t533 != 0) = false := bne_eq_false_iff_eq.mpr c31
     clear c31
     replace H := bA H
     obtain ⟨⟨t535, t536, t537, t538, t541, t544, t547, t548⟩, A32, H⟩ := H
     try dsimp only at H
     replace H := bA H
     obtain ⟨⟨t550, t553⟩, A33, H⟩ := H
     try dsimp only at H
     by_cases c34 : (wrap64 (t523 - 1)) = 0
     ·rw [if_pos c34] at H
      have c34b0 : ((wrap64 (t523 - 1)) == 0) = true := beq_iff_eq.mpr c34
      have c34b1 : ((wrap64 (t523 - 1)) != 0) = false := bne_eq_false_iff_eq.mpr c34
      clear c34
      replace H := bA H
      obtain ⟨⟨t554, t557⟩, A35, H⟩ := H
      try dsimp only at H
      simp only [Option.some.injEq, Prod.mk.injEq] at H
      obtain ⟨rfl, rfl, rfl⟩ := H
      have hnb36 := NB511_512.out
      have hnc36 := NB512_511.out
      obtain ⟨⟨_, _⟩, _, _⟩ := z2 BK511
      go_wp2_with (first | ((with_reducible refine gate_callee (f := 48) rfl ?_); refine gl_ 25 Tryz.func48 (impl_fileAt.calls kj3 _ _ t513 t516 a1 t521 t522 t523 t524 t527 t530 t533 _ (rcS0 HO_512000) (rnS HO_512000) A30.out) ?_; rintro e w38 ⟨v525, v528, v531, rfl, ho0, ho1, ho2, hb⟩; refine ⟨_, rfl, ?_⟩; have HO526 := Aside0.mk (Kd.R_lower ho0 (below_size oB)); have HO529 := Aside0.mk (Kd.R_lower ho1 (below_size oB)); have HO532 := Aside0.mk (Kd.R_lower ho2 (below_size oB)); replace HO_512000 := tdS3 (olS0 HO_512000 hb) (Kd.R_base ho0) (Kd.R_base ho1) (Kd.R_base ho2); replace BK511 := kb_ BK511 hb; replace BK512 := kb_ BK512 hb; replace HB := Aside0.mk (below_step oB hb); (try clear ho1); (try clear ho2)) | ((with_reducible refine gate_dst (N := 6) rfl ?_); refine bx_ 6 #[.int .i64 0, .int .i64 0, .int .i64 0, .slice none 0 0, .slice none 0 0, .slice none 0 0] 51 ?_; intro gb534 hg w39 hbox hb; have BK534 := Aside0.mk (hbox); have GW534 := gs_ hg; have NB511_534 := nl_ hg BK511; have NB534_511 := nr_ hg BK511; have NB512_534 := nl_ hg BK512; have NB534_512 := nr_ hg BK512; replace HO_512000 := Aside0.mk (Kd.S_below (Kd.S_elderB (nS0 HO_512000) gb534 (Nat.le_of_eq hg.symm)) hb); replace HO526 := kr_ HO526 hb; replace HO529 := kr_ HO529 hb; replace HO532 := kr_ HO532 hb; replace BK511 := kb_ BK511 hb; replace BK512 := kb_ BK512 hb; replace HB := Aside0.mk (below_step oB hb); clear hb hbox hg; have hnb40 := NB534_511.out; have hnc40 := NB511_534.out; have hnb41 := NB534_512.out; have hnc41 := NB512_534.out; obtain ⟨⟨_, _, _, _, _, _⟩, _, _, _, _, _, _⟩ := z6 BK534; obtain ⟨Ao43, co43, eo43⟩ := Kd.R_slice HO526.out; subst eo43; obtain ⟨Ao44, co44, eo44⟩ := Kd.R_slice HO529.out; subst eo44; obtain ⟨Ao45, co45, eo45⟩ := Kd.R_slice HO532.out; subst eo45; obtain ⟨⟨_, _⟩, _, _⟩ := z2 BK511) | ((with_reducible refine gate_callee (f := 57) rfl ?_); refine gl_ 35 Tryz.func57 (impl_spotOf.calls kj3 _ _ t513 t516 a1 t535 t536 t537 t538 t541 t544 t547 t548 _ (rcS2 HO_512000 gb534 (fun _ hk => hk.2)) (rnS HO_512000) A32.out) ?_; rintro e w47 ⟨v539, v542, v545, rfl, ho0, ho1, ho2, hb⟩; refine ⟨_, rfl, ?_⟩; have HO540 := Aside0.mk (Kd.R_lower (Kd.R_new' ho0 (ltR1 HO526 BK534)) (below_size oB)); have HO543 := Aside0.mk (Kd.R_lower (Kd.R_new' ho1 (ltR1 HO529 BK534)) (below_size oB)); have HO546 := Aside0.mk (Kd.R_lower (Kd.R_new' ho2 (ltR1 HO532 BK534)) (below_size oB)); replace HO_512000 := tdS3 (olS2 HO_512000 gb534 (fun _ hk => hk.2) hb) (Kd.R_base ho0) (Kd.R_base ho1) (Kd.R_base ho2); replace HO526 := elR1 HO526 BK534 (Kd.R_base ho0) hb; replace HO529 := elR1 HO529 BK534 (Kd.R_base ho1) hb; replace HO532 := elR1 HO532 BK534 (Kd.R_base ho2) hb; replace BK511 := kb_ BK511 hb; replace BK512 := kb_ BK512 hb; replace BK534 := kp_ #[.int .i64 t521, .int .i64 t522, .int .i64 t523, .slice Ao43 t524.length co43, .slice Ao44 t527.length co44, .slice Ao45 t530.length co45] BK534 hb; replace HB := Aside0.mk (below_step oB hb); (try clear hk); (try clear ho1); (try clear ho2)) | ((with_reducible refine gate_dst (N := 8) rfl ?_); refine bx_ 8 #[.int .i64 0, .int .i64 0, .int .i64 0, .slice none 0 0, .slice none 0 0, .slice none 0 0, .string (⟨#[]⟩ : ByteArray)] 84 ?_; intro gb549 hg w48 hbox hb; have BK549 := Aside0.mk (hbox); have GW549 := gs_ hg; have NB511_549 := nl_ hg BK511; have NB549_511 := nr_ hg BK511; have NB512_549 := nl_ hg BK512; have NB549_512 := nr_ hg BK512; have NB534_549 := nl_ hg BK534; have NB549_534 := nr_ hg BK534; replace HO_512000 := beS0 HO_512000 hb; replace HO526 := kr_ HO526 hb; replace HO529 := kr_ HO529 hb; replace HO532 := kr_ HO532 hb; replace HO540 := kr_ HO540 hb; replace HO543 := kr_ HO543 hb; replace HO546 := kr_ HO546 hb; replace BK511 := kb_ BK511 hb; replace BK512 := kb_ BK512 hb; replace BK534 := kb_ BK534 hb; replace HB := Aside0.mk (below_step oB hb); clear hb hbox hg; have hnb49 := NB549_511.out; have hnc49 := NB511_549.out; have hnb50 := NB549_512.out; have hnc50 := NB512_549.out; have hnb51 := NB549_534.out; have hnc51 := NB534_549.out; obtain ⟨⟨_, _, _, _, _, _, _⟩, _, _, _, _, _, _, _⟩ := z7 BK549; obtain ⟨Ao53, co53, eo53⟩ := Kd.R_slice HO540.out; subst eo53; obtain ⟨Ao54, co54, eo54⟩ := Kd.R_slice HO543.out; subst eo54; obtain ⟨Ao55, co55, eo55⟩ := Kd.R_slice HO546.out; subst eo55; obtain ⟨⟨_, _⟩, _, _⟩ := z2 BK511) | ((with_reducible refine gate_callee (f := 60) rfl ?_); refine gl_ 40 Tryz.func60 (impl_spot_leave.calls kj3 t535 t536 t537 _ _ t538 _ _ t541 _ _ t544 t547 _ _ t513 t516 t550 t553 _ (rcR1 HO540 BK549) (ko HO540) (rcR1 HO543 BK549) (ko HO543) (rcR1 HO546 BK549) (ko HO546) (rcS1 HO_512000 BK549) (rnS HO_512000) A33.out) ?_; rintro e w57 ⟨v551, rfl, ho0, hb⟩; refine ⟨_, rfl, ?_⟩; have HO552 := Aside0.mk (Kd.S_lower (Kd.S_newB (Kd.S_new' (Kd.S_new' (Kd.S_new' (Kd.S_new' (Kd.S_new' (Kd.S_new' (Kd.S_new' ho0 (ltS1 HO_512000 BK549)) (ltR1 HO526 BK549)) (ltR1 HO529 BK549)) (ltR1 HO532 BK549)) (ltR1 HO540 BK549)) (ltR1 HO543 BK549)) (ltR1 HO546 BK549)) (g := gb534) (o := .cells #[.int .i64 t521, .int .i64 t522, .int .i64 t523, .slice Ao43 t524.length co43, .slice Ao44 t527.length co44, .slice Ao45 t530.length co45] 51 (0, 0)) (oF BK534)) (below_size oB)); replace HO_512000 := elS1 HO_512000 BK549 (Kd.S_base ho0) hb; replace HO526 := beR1 HO526 BK549 hb; replace HO529 := beR1 HO529 BK549 hb; replace HO532 := beR1 HO532 BK549 hb; replace HO540 := beR1 HO540 BK549 hb; replace HO543 := beR1 HO543 BK549 hb; replace HO546 := beR1 HO546 BK549 hb; replace BK511 := kb_ BK511 hb; replace BK512 := kb_ BK512 hb; replace BK534 := kb_ BK534 hb; replace BK549 := kp_ #[.int .i64 t535, .int .i64 t536, .int .i64 t537, .slice Ao53 t538.length co53, .slice Ao54 t541.length co54, .slice Ao55 t544.length co55, .string t547] BK549 hb; replace HB := Aside0.mk (below_step oB hb); (try clear hk); obtain ⟨Ao58, co58, eo58⟩ := Kd.S_slice HO552.out; subst eo58; obtain ⟨⟨_, _⟩, _, _⟩ := z2 BK511; obtain ⟨⟨_, _, _, _, _, _⟩, _, _, _, _, _, _⟩ := z6 BK534) | ((with_reducible refine gate_callee (f := 61) rfl ?_); refine gl_ 51 Tryz.func61 (impl_DropInode.calls kj3 _ _ t550 t553 t521 t554 t557 _ (rcS4 HO552 BK511 gb534 (fun _ hk => hk.1.2)) (rnS HO552) A35.out) ?_; rintro e w61 ⟨v555, rfl, ho0, hb⟩; refine ⟨_, rfl, ?_⟩; have HO556 := Aside0.mk (Kd.S_lower (Kd.S_newB (Kd.S_new' (Kd.S_new' (Kd.S_new' (Kd.S_new' (Kd.S_new' (Kd.S_new' (Kd.S_new' (Kd.S_new' ho0 (ltS4 HO_512000 BK511 gb534 (fun _ hk => hk.1.1.1.1.1.2))) (ltR3 HO526 BK511 BK534)) (ltR3 HO529 BK511 BK534)) (ltR3 HO532 BK511 BK534)) (ltR3 HO540 BK511 BK534)) (ltR3 HO543 BK511 BK534)) (ltR3 HO546 BK511 BK534)) (ltS4 HO552 BK511 gb534 (fun _ hk => hk.1.2))) (g := gb534) (o := .cells #[.int .i64 t521, .int .i64 t522, .int .i64 (wrap64 (t523 - 1)), .slice Ao43 t524.length co43, .slice Ao44 t527.length co44, .slice Ao45 t530.length co45] 51 (0, 0)) (oP BK534)) (below_size oB)); replace HO_512000 := elS4 HO_512000 BK511 gb534 (fun _ hk => hk.1.1.1.1.1.2) (Kd.S_base ho0) hb; replace HO526 := beR3 HO526 BK511 BK534 hb; replace HO529 := beR3 HO529 BK511 BK534 hb; replace HO532 := beR3 HO532 BK511 BK534 hb; replace HO540 := beR3 HO540 BK511 BK534 hb; replace HO543 := beR3 HO543 BK511 BK534 hb; replace HO546 := beR3 HO546 BK511 BK534 hb; replace HO552 := elS4 HO552 BK511 gb534 (fun _ hk => hk.1.2) (Kd.S_base ho0) hb; replace BK511 := kp_ #[.slice Ao58 t550.length co58, .int .i64 t553] BK511 hb; replace BK512 := kb_ BK512 hb; replace BK534 := kp_ #[.int .i64 t521, .int .i64 t522, .int .i64 (wrap64 (t523 - 1)), .slice Ao43 t524.length co43, .slice Ao44 t527.length co44, .slice Ao45 t530.length co45] BK534 hb; replace BK549 := kb_ BK549 hb; replace HB := Aside0.mk (below_step oB hb); (try clear hk); obtain ⟨Ao62, co62, eo62⟩ := Kd.S_slice HO556.out; subst eo62; obtain ⟨⟨_, _⟩, _, _⟩ := z2 BK512))
      refine bodyPost_ret (results_ct rfl _ _ gb512 26 #[.slice Ao62 t554.length co62, .int .i64 t557] (0, 0) _ rfl (oP BK512) Tryz.underlying26 rfl (by kernel_rfl)) rfl ?_
      exact ⟨_, oE, by (with_reducible repeat (first | apply Kd.S_alloc | apply Kd.S_drewN | apply Kd.S_drew)); exact Kd.S_mono (Kd.S_far (p := ⟨gb512, 1, none⟩) (Kd.S_far (p := ⟨gb512, 0, none⟩) (Kd.S_types HO556.out BK512.out (by decide)) (fun _ hk => hk.2) (.slice Ao62 t554.length co62)) (fun _ hk => hk.2) (.int .i64 t557)) (fun _ hk => trivial), oB⟩
     ·rw [if_neg c34] at H
      have c34b0 : ((wrap64 (t523 - 1)) == 0) = false := beq_eq_false_iff_ne.mpr c34
      have c34b1 : ((wrap64 (t523 - 1)) != 0) = true := bne_iff_ne.mpr c34
      replace H := bA H
      obtain ⟨⟨t558, t561⟩, A64, H⟩ := H
      try dsimp only at H
      simp only [Option.some.injEq, Prod.mk.injEq] at H
      obtain ⟨rfl, rfl, rfl⟩ := H
      have hnb65 := NB511_512.out
      have hnc65 := NB512_511.out
      obtain ⟨⟨_, _⟩, _, _⟩ := z2 BK511
      go_wp2_with (first | ((with_reducible refine gate_callee (f := 48) rfl ?_); refine gl_ 25 Tryz.func48 (impl_fileAt.calls kj3 _ _ t513 t516 a1 t521 t522 t523 t524 t527 t530 t533 _ (rcS0 HO_512000) (rnS HO_512000) A30.out) ?_; rintro e w67 ⟨v525, v528, v531, rfl, ho0, ho1, ho2, hb⟩; refine ⟨_, rfl, ?_⟩; have HO526 := Aside0.mk (Kd.R_lower ho0 (below_size oB)); have HO529 := Aside0.mk (Kd.R_lower ho1 (below_size oB)); have HO532 := Aside0.mk (Kd.R_lower ho2 (below_size oB)); replace HO_512000 := tdS3 (olS0 HO_512000 hb) (Kd.R_base ho0) (Kd.R_base ho1) (Kd.R_base ho2); replace BK511 := kb_ BK511 hb; replace BK512 := kb_ BK512 hb; replace HB := Aside0.mk (below_step oB hb); (try clear ho1); (try clear ho2)) | ((with_reducible refine gate_dst (N := 6) rfl ?_); refine bx_ 6 #[.int .i64 0, .int .i64 0, .int .i64 0, .slice none 0 0, .slice none 0 0, .slice none 0 0] 51 ?_; intro gb534 hg w68 hbox hb; have BK534 := Aside0.mk (hbox); have GW534 := gs_ hg; have NB511_534 := nl_ hg BK511; have NB534_511 := nr_ hg BK511; have NB512_534 := nl_ hg BK512; have NB534_512 := nr_ hg BK512; replace HO_512000 := Aside0.mk (Kd.S_below (Kd.S_elderB (nS0 HO_512000) gb534 (Nat.le_of_eq hg.symm)) hb); replace HO526 := kr_ HO526 hb; replace HO529 := kr_ HO529 hb; replace HO532 := kr_ HO532 hb; replace BK511 := kb_ BK511 hb; replace BK512 := kb_ BK512 hb; replace HB := Aside0.mk (below_step oB hb); clear hb hbox hg; have hnb69 := NB534_511.out; have hnc69 := NB511_534.out; have hnb70 := NB534_512.out; have hnc70 := NB512_534.out; obtain ⟨⟨_, _, _, _, _, _⟩, _, _, _, _, _, _⟩ := z6 BK534; obtain ⟨Ao72, co72, eo72⟩ := Kd.R_slice HO526.out; subst eo72; obtain ⟨Ao73, co73, eo73⟩ := Kd.R_slice HO529.out; subst eo73; obtain ⟨Ao74, co74, eo74⟩ := Kd.R_slice HO532.out; subst eo74; obtain ⟨⟨_, _⟩, _, _⟩ := z2 BK511) | ((with_reducible refine gate_callee (f := 57) rfl ?_); refine gl_ 35 Tryz.func57 (impl_spotOf.calls kj3 _ _ t513 t516 a1 t535 t536 t537 t538 t541 t544 t547 t548 _ (rcS2 HO_512000 gb534 (fun _ hk => hk.2)) (rnS HO_512000) A32.out) ?_; rintro e w76 ⟨v539, v542, v545, rfl, ho0, ho1, ho2, hb⟩; refine ⟨_, rfl, ?_⟩; have HO540 := Aside0.mk (Kd.R_lower (Kd.R_new' ho0 (ltR1 HO526 BK534)) (below_size oB)); have HO543 := Aside0.mk (Kd.R_lower (Kd.R_new' ho1 (ltR1 HO529 BK534)) (below_size oB)); have HO546 := Aside0.mk (Kd.R_lower (Kd.R_new' ho2 (ltR1 HO532 BK534)) (below_size oB)); replace HO_512000 := tdS3 (olS2 HO_512000 gb534 (fun _ hk => hk.2) hb) (Kd.R_base ho0) (Kd.R_base ho1) (Kd.R_base ho2); replace HO526 := elR1 HO526 BK534 (Kd.R_base ho0) hb; replace HO529 := elR1 HO529 BK534 (Kd.R_base ho1) hb; replace HO532 := elR1 HO532 BK534 (Kd.R_base ho2) hb; replace BK511 := kb_ BK511 hb; replace BK512 := kb_ BK512 hb; replace BK534 := kp_ #[.int .i64 t521, .int .i64 t522, .int .i64 t523, .slice Ao72 t524.length co72, .slice Ao73 t527.length co73, .slice Ao74 t530.length co74] BK534 hb; replace HB := Aside0.mk (below_step oB hb); (try clear hk); (try clear ho1); (try clear ho2)) | ((with_reducible refine gate_dst (N := 8) rfl ?_); refine bx_ 8 #[.int .i64 0, .int .i64 0, .int .i64 0, .slice none 0 0, .slice none 0 0, .slice none 0 0, .string (⟨#[]⟩ : ByteArray)] 84 ?_; intro gb549 hg w77 hbox hb; have BK549 := Aside0.mk (hbox); have GW549 := gs_ hg; have NB511_549 := nl_ hg BK511; have NB549_511 := nr_ hg BK511; have NB512_549 := nl_ hg BK512; have NB549_512 := nr_ hg BK512; have NB534_549 := nl_ hg BK534; have NB549_534 := nr_ hg BK534; replace HO_512000 := beS0 HO_512000 hb; replace HO526 := kr_ HO526 hb; replace HO529 := kr_ HO529 hb; replace HO532 := kr_ HO532 hb; replace HO540 := kr_ HO540 hb; replace HO543 := kr_ HO543 hb; replace HO546 := kr_ HO546 hb; replace BK511 := kb_ BK511 hb; replace BK512 := kb_ BK512 hb; replace BK534 := kb_ BK534 hb; replace HB := Aside0.mk (below_step oB hb); clear hb hbox hg; have hnb78 := NB549_511.out; have hnc78 := NB511_549.out; have hnb79 := NB549_512.out; have hnc79 := NB512_549.out; have hnb80 := NB549_534.out; have hnc80 := NB534_549.out; obtain ⟨⟨_, _, _, _, _, _, _⟩, _, _, _, _, _, _, _⟩ := z7 BK549; obtain ⟨Ao82, co82, eo82⟩ := Kd.R_slice HO540.out; subst eo82; obtain ⟨Ao83, co83, eo83⟩ := Kd.R_slice HO543.out; subst eo83; obtain ⟨Ao84, co84, eo84⟩ := Kd.R_slice HO546.out; subst eo84; obtain ⟨⟨_, _⟩, _, _⟩ := z2 BK511) | ((with_reducible refine gate_callee (f := 60) rfl ?_); refine gl_ 40 Tryz.func60 (impl_spot_leave.calls kj3 t535 t536 t537 _ _ t538 _ _ t541 _ _ t544 t547 _ _ t513 t516 t550 t553 _ (rcR1 HO540 BK549) (ko HO540) (rcR1 HO543 BK549) (ko HO543) (rcR1 HO546 BK549) (ko HO546) (rcS1 HO_512000 BK549) (rnS HO_512000) A33.out) ?_; rintro e w86 ⟨v551, rfl, ho0, hb⟩; refine ⟨_, rfl, ?_⟩; have HO552 := Aside0.mk (Kd.S_lower (Kd.S_newB (Kd.S_new' (Kd.S_new' (Kd.S_new' (Kd.S_new' (Kd.S_new' (Kd.S_new' (Kd.S_new' ho0 (ltS1 HO_512000 BK549)) (ltR1 HO526 BK549)) (ltR1 HO529 BK549)) (ltR1 HO532 BK549)) (ltR1 HO540 BK549)) (ltR1 HO543 BK549)) (ltR1 HO546 BK549)) (g := gb534) (o := .cells #[.int .i64 t521, .int .i64 t522, .int .i64 t523, .slice Ao72 t524.length co72, .slice Ao73 t527.length co73, .slice Ao74 t530.length co74] 51 (0, 0)) (oF BK534)) (below_size oB)); replace HO_512000 := elS1 HO_512000 BK549 (Kd.S_base ho0) hb; replace HO526 := beR1 HO526 BK549 hb; replace HO529 := beR1 HO529 BK549 hb; replace HO532 := beR1 HO532 BK549 hb; replace HO540 := beR1 HO540 BK549 hb; replace HO543 := beR1 HO543 BK549 hb; replace HO546 := beR1 HO546 BK549 hb; replace BK511 := kb_ BK511 hb; replace BK512 := kb_ BK512 hb; replace BK534 := kb_ BK534 hb; replace BK549 := kp_ #[.int .i64 t535, .int .i64 t536, .int .i64 t537, .slice Ao82 t538.length co82, .slice Ao83 t541.length co83, .slice Ao84 t544.length co84, .string t547] BK549 hb; replace HB := Aside0.mk (below_step oB hb); (try clear hk); obtain ⟨Ao87, co87, eo87⟩ := Kd.S_slice HO552.out; subst eo87; obtain ⟨⟨_, _⟩, _, _⟩ := z2 BK511; obtain ⟨⟨_, _, _, _, _, _⟩, _, _, _, _, _, _⟩ := z6 BK534) | ((with_reducible refine gate_callee (f := 50) rfl ?_); refine gl_ 54 Tryz.func50 (impl_SetInode.calls kj3 _ _ t550 t553 t521 t522 (wrap64 (t523 - 1)) _ _ t524 _ _ t527 _ _ t530 t558 t561 _ (rcS4 HO552 BK511 gb534 (fun _ hk => hk.1.2)) (rnS HO552) (rcR3 HO526 BK511 BK534) (ko HO526) (rcR3 HO529 BK511 BK534) (ko HO529) (rcR3 HO532 BK511 BK534) (ko HO532) A64.out) ?_; rintro e w90 ⟨v559, rfl, ho0, hb⟩; refine ⟨_, rfl, ?_⟩; have HO560 := Aside0.mk (Kd.S_lower (Kd.S_newB (Kd.S_new' (Kd.S_new' (Kd.S_new' (Kd.S_new' (Kd.S_new' (Kd.S_new' (Kd.S_new' (Kd.S_new' ho0 (ltS4 HO_512000 BK511 gb534 (fun _ hk => hk.1.1.1.1.1.2))) (ltR3 HO526 BK511 BK534)) (ltR3 HO529 BK511 BK534)) (ltR3 HO532 BK511 BK534)) (ltR3 HO540 BK511 BK534)) (ltR3 HO543 BK511 BK534)) (ltR3 HO546 BK511 BK534)) (ltS4 HO552 BK511 gb534 (fun _ hk => hk.1.2))) (g := gb534) (o := .cells #[.int .i64 t521, .int .i64 t522, .int .i64 (wrap64 (t523 - 1)), .slice Ao72 t524.length co72, .slice Ao73 t527.length co73, .slice Ao74 t530.length co74] 51 (0, 0)) (oP BK534)) (below_size oB)); replace HO_512000 := elS4 HO_512000 BK511 gb534 (fun _ hk => hk.1.1.1.1.1.2) (Kd.S_base ho0) hb; replace HO526 := beR3 HO526 BK511 BK534 hb; replace HO529 := beR3 HO529 BK511 BK534 hb; replace HO532 := beR3 HO532 BK511 BK534 hb; replace HO540 := beR3 HO540 BK511 BK534 hb; replace HO543 := beR3 HO543 BK511 BK534 hb; replace HO546 := beR3 HO546 BK511 BK534 hb; replace HO552 := elS4 HO552 BK511 gb534 (fun _ hk => hk.1.2) (Kd.S_base ho0) hb; replace BK511 := kp_ #[.slice Ao87 t550.length co87, .int .i64 t553] BK511 hb; replace BK512 := kb_ BK512 hb; replace BK534 := kp_ #[.int .i64 t521, .int .i64 t522, .int .i64 (wrap64 (t523 - 1)), .slice Ao72 t524.length co72, .slice Ao73 t527.length co73, .slice Ao74 t530.length co74] BK534 hb; replace BK549 := kb_ BK549 hb; replace HB := Aside0.mk (below_step oB hb); (try clear hk); obtain ⟨Ao91, co91, eo91⟩ := Kd.S_slice HO560.out; subst eo91; obtain ⟨⟨_, _⟩, _, _⟩ := z2 BK512))
      refine bodyPost_ret (results_ct rfl _ _ gb512 26 #[.slice Ao91 t558.length co91, .int .i64 t561] (0, 0) _ rfl (oP BK512) Tryz.underlying26 rfl (by kernel_rfl)) rfl ?_
      exact ⟨_, oE, by (with_reducible repeat (first | apply Kd.S_alloc | apply Kd.S_drewN | apply Kd.S_drew)); exact Kd.S_mono (Kd.S_far (p := ⟨gb512, 1, none⟩) (Kd.S_far (p := ⟨gb512, 0, none⟩) (Kd.S_types HO560.out BK512.out (by decide)) (fun _ hk => hk.2) (.slice Ao91 t558.length co91)) (fun _ hk => hk.2) (.int .i64 t561)) (fun _ hk => trivial), oB⟩
    ·rw [if_neg c31] at H
     have c31b0 : (t533 == 0) = false := beq_eq_false_iff_ne.mpr c31
     have c31b1 : (t533 != 0) = true := bne_iff_ne.mpr c31
     simp only [Option.some.injEq, Prod.mk.injEq] at H
     obtain ⟨rfl, rfl, rfl⟩ := H
     have hnb93 := NB511_512.out
     have hnc93 := NB512_511.out
     obtain ⟨⟨_, _⟩, _, _⟩ := z2 BK511
     go_wp2_with (first | ((with_reducible refine gate_callee (f := 48) rfl ?_); refine gl_ 25 Tryz.func48 (impl_fileAt.calls kj3 _ _ t513 t516 a1 t521 t522 t523 t524 t527 t530 t533 _ (rcS0 HO_512000) (rnS HO_512000) A30.out) ?_; rintro e w95 ⟨v525, v528, v531, rfl, ho0, ho1, ho2, hb⟩; refine ⟨_, rfl, ?_⟩; have HO526 := Aside0.mk (Kd.R_lower ho0 (below_size oB)); have HO529 := Aside0.mk (Kd.R_lower ho1 (below_size oB)); have HO532 := Aside0.mk (Kd.R_lower ho2 (below_size oB)); replace HO_512000 := tdS3 (olS0 HO_512000 hb) (Kd.R_base ho0) (Kd.R_base ho1) (Kd.R_base ho2); replace BK511 := kb_ BK511 hb; replace BK512 := kb_ BK512 hb; replace HB := Aside0.mk (below_step oB hb); (try clear ho1); (try clear ho2)) | ((with_reducible refine gate_dst (N := 6) rfl ?_); refine bx_ 6 #[.int .i64 0, .int .i64 0, .int .i64 0, .slice none 0 0, .slice none 0 0, .slice none 0 0] 51 ?_; intro gb534 hg w96 hbox hb; have BK534 := Aside0.mk (hbox); have GW534 := gs_ hg; have NB511_534 := nl_ hg BK511; have NB534_511 := nr_ hg BK511; have NB512_534 := nl_ hg BK512; have NB534_512 := nr_ hg BK512; replace HO_512000 := Aside0.mk (Kd.S_below (Kd.S_elderB (nS0 HO_512000) gb534 (Nat.le_of_eq hg.symm)) hb); replace HO526 := kr_ HO526 hb; replace HO529 := kr_ HO529 hb; replace HO532 := kr_ HO532 hb; replace BK511 := kb_ BK511 hb; replace BK512 := kb_ BK512 hb; replace HB := Aside0.mk (below_step oB hb); clear hb hbox hg; have hnb97 := NB534_511.out; have hnc97 := NB511_534.out; have hnb98 := NB534_512.out; have hnc98 := NB512_534.out; obtain ⟨⟨_, _, _, _, _, _⟩, _, _, _, _, _, _⟩ := z6 BK534; obtain ⟨Ao100, co100, eo100⟩ := Kd.R_slice HO526.out; subst eo100; obtain ⟨Ao101, co101, eo101⟩ := Kd.R_slice HO529.out; subst eo101; obtain ⟨Ao102, co102, eo102⟩ := Kd.R_slice HO532.out; subst eo102; obtain ⟨⟨_, _⟩, _, _⟩ := z2 BK511; obtain ⟨⟨_, _⟩, _, _⟩ := z2 BK512))
     refine bodyPost_ret (results_ct rfl _ _ gb512 26 #[.slice Ao10 t513.length co10, .int .i64 t516] (0, 0) _ rfl (oP BK512) Tryz.underlying26 rfl (by kernel_rfl)) rfl ?_
     exact ⟨_, oE, by (with_reducible repeat (first | apply Kd.S_alloc | apply Kd.S_drewN | apply Kd.S_drew)); exact Kd.S_mono (Kd.S_far (p := ⟨gb512, 1, none⟩) (Kd.S_far (p := ⟨gb512, 0, none⟩) (Kd.S_far (p := ⟨gb534, 5, none⟩) (Kd.S_far (p := ⟨gb534, 4, none⟩) (Kd.S_far (p := ⟨gb534, 3, none⟩) (Kd.S_far (p := ⟨gb534, 2, none⟩) (Kd.S_far (p := ⟨gb534, 1, none⟩) (Kd.S_far (p := ⟨gb534, 0, none⟩) (Kd.S_types (Kd.S_mono HO_512000.out (fun k_ hk => (⟨hk, hk.2⟩ : _ ∧ k_ ≠ gb534))) BK512.out (by decide)) (fun _ hk => hk.1.2) (.int .i64 t521)) (fun _ hk => hk.1.2) (.int .i64 t522)) (fun _ hk => hk.1.2) (.int .i64 t523)) (fun _ hk => hk.1.2) (.slice Ao100 t524.length co100)) (fun _ hk => hk.1.2) (.slice Ao101 t527.length co101)) (fun _ hk => hk.1.2) (.slice Ao102 t530.length co102)) (fun _ hk => hk.2) (.slice Ao10 t513.length co10)) (fun _ hk => hk.2) (.int .i64 t516)) (fun _ hk => trivial), oB⟩

end Go.Proofs.YtkcfmbggdkkfeaaGreatDoor.P
