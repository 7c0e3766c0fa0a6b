-- By this session's own program (wip/myprint.py) out of the translation; Lean checks it.
import Derived.Test.YtkcfmbggdkkfeaaGreatDoorPx0
import Derived.Test.YtkcfmbggdkkfeaaGreatDoorPx2
import Derived.Test.YtkcfmbggdkkfeaaGreatDoorPx3
import Derived.Test.YtkcfmbggdkkfeaaGreatDoorPx6
import Derived.Test.YtkcfmbggdkkfeaaGreatDoorPx8
import Derived.Test.YtkcfmbggdkkfeaaGreatDoorPx9
import Derived.Test.YtkcfmbggdkkfeaaGreatDoorPx12
import Derived.Test.YtkcfmbggdkkfeaaGreatDoorPx13
namespace Go.Proofs.YtkcfmbggdkkfeaaGreatDoor.P
open Go.RowKit Go.Proofs.YtkcfmbggdkkfeaaGreatDoorW.PrintWords Go.Proofs.YtkcfmbggdkkfeaaGreatDoorW.PrintLast Go.Proofs.YtkcfmbggdkkfeaaGreatDoorW.PrintMore
attribute [local go_sem] max2_int min2_int max_two min_two max_three min_three max_four min_four   -- for this text's walks alone
set_option linter.unusedVariables false
set_option linter.unusedSimpArgs false

/-! ### impl_HardLink: function 27 -/
def impl_HardLink.j0 : Nat → ByteArray → ByteArray → Bool → List (S51) → Int → Option ((List (S51)) × Int × Int)
 | 0, _, _, _, _, _ => none
 | k + 1, x1, x2, x22, x420000, x420001 => if x22 = true then (some (x420000, x420001, 1)) else ((impl_fileAt.f k x420000 x420001 x1).bind fun bt429 => (if bt429.2.2.2.2.2.2 = 0 then ((impl_spotOf.f k x420000 x420001 x2).bind fun bt443 => (if bt443.2.2.2.2.2.2.2 = 0 then ((impl_EntOf.f k bt443.1 bt443.2.1 bt443.2.2.1 bt443.2.2.2.1 bt443.2.2.2.2.1 bt443.2.2.2.2.2.1 bt443.2.2.2.2.2.2.1).bind fun t458 => (if t458 = 0 then (if (bt443.2.2.2.2.1.length : Int) = 10 then (some (x420000, x420001, 5)) else ((impl_spot_enter.f k bt443.1 bt443.2.1 bt443.2.2.1 bt443.2.2.2.1 bt443.2.2.2.2.1 bt443.2.2.2.2.2.1 bt443.2.2.2.2.2.2.1 x420000 x420001 bt429.1).bind fun bt459 => ((impl_SetInode.f k bt459.1 bt459.2 bt429.1 bt429.2.1 (wrap64 (bt429.2.2.1 + 1)) bt429.2.2.2.1 bt429.2.2.2.2.1 bt429.2.2.2.2.2.1).bind fun bt463 => (some (bt463.1, bt463.2, 0))))) else (some (x420000, x420001, 4)))) else (some (x420000, x420001, bt443.2.2.2.2.2.2.2)))) else (some (x420000, x420001, bt429.2.2.2.2.2.2))))
def impl_HardLink.f (k : Nat) (l0_0 : List (S51)) (a0_1 : Int) (a1 : ByteArray) (a2 : ByteArray) : Option ((List (S51)) × Int × Int) := (impl_copyTab.f k l0_0 a0_1).bind fun bt421 => ((impl_ready.f k bt421.1 bt421.2 (([a1, a2] : List ByteArray))).bind fun t428 => (if t428 = true then (impl_HardLink.j0 k a1 a2 (a2.toList == ([47] : List UInt8)) bt421.1 bt421.2) else (impl_HardLink.j0 k a1 a2 true bt421.1 bt421.2)))
def impl_HardLink.T15 : Bool × List (List Nat × List Nat) := (true, [([], []), ([], []), ([], []), ([2], [2]), ([0, 1, 3], [0, 1, 3]), ([], []), ([4, 5, 4], [4, 5]), ([6, 6, 0, 1, 2, 3, 4, 5, 6], [6]), ([7, 0, 1, 2, 3, 4, 5, 6, 7], [])])
def impl_HardLink.B15 : List Nat := [0, 0, 0, 4, 15, 0, 63, 127, 255]
theorem impl_HardLink.tab15 : rtab .any (opsOf Tryz.f27 15) = impl_HardLink.T15 := by kernel_rfl
theorem impl_HardLink.bits15 : waitsOk impl_HardLink.T15.2 impl_HardLink.B15 = true := by kernel_rfl
set_option maxHeartbeats 8000000 in
set_option maxRecDepth 100000 in
theorem impl_HardLink.calls (k : Nat) (A0_0 : Option Addr) (c0_0 : Nat) (l0_0 : List (S51)) (a0_1 : Int) (a1 : ByteArray) (a2 : ByteArray) (r1 : List (S51)) (r2 : Int) (r3 : Int) (w : World) (hr0_0 : Kd.C k51 w A0_0 l0_0.length l0_0) (hc0_0 : l0_0.length ≤ c0_0) (h : impl_HardLink.f k l0_0 a0_1 a1 a2 = some (r1, r2, r3)) (hG : GOk w := by exact gk_ oB (by first | (with_reducible assumption) | assumption)) :
  Calls Tryz.prog 27 #[.agg #[.slice A0_0 l0_0.length c0_0, .int .i64 a0_1], .string a1, .string a2] w fun e w' => ∃ v0_ : Value, e = .returned (.tuple #[.agg #[v0_, .int .i64 r2], .int .i64 r3]) ∧ Kd.S k51 51 w' w.heap.size (fun _ => True) v0_ r1 ∧ Below w.heap.size w w' := by
 have HG := Aside0.mk hG
 clear hG
 have hu26 := Tryz.underlying26
 have hu51 := Tryz.underlying51
 have hu84 := Tryz.underlying84
 have HR0_0 := Aside0.mk hr0_0
 have HC0_0 := Aside0.mk hc0_0
 clear hr0_0 hc0_0
 have HB := Aside0.mk (Below.refl w.heap.size w)
 unfold impl_HardLink.f at h
 have H := h
 clear h
 replace H := bA H
 obtain ⟨⟨t421, t424⟩, A4, H⟩ := H
 try dsimp only at H
 have HC5 := Aside0.mk H
 clear H
 go_enter Tryz.func27, Tryz.ntmps27
 go_upto_region 2 with (first | ((with_reducible refine gate_dst (N := 3) rfl ?_); refine bx_ 3 #[.slice A0_0 l0_0.length c0_0, .int .i64 a0_1] 26 ?_; intro gb419 hg w6 hbox hb; have BK419 := Aside0.mk (hbox); have GW419 := gs_ hg; replace HB := Aside0.mk (below_step oB hb); clear hb hbox hg) | ((with_reducible refine gate_dst (N := 6) rfl ?_); refine bx_ 6 #[.slice none 0 0, .int .i64 0] 26 ?_; intro gb420 hg w7 hbox hb; have BK420 := Aside0.mk (hbox); have GW420 := gs_ hg; have NB419_420 := nl_ hg BK419; have NB420_419 := nr_ hg BK419; replace BK419 := kb_ BK419 hb; replace HB := Aside0.mk (below_step oB hb); clear hb hbox hg; have hnb8 := NB419_420.out; have hnc8 := NB420_419.out; obtain ⟨⟨_, _⟩, _, _⟩ := z2 BK419) | ((with_reducible refine gate_callee (f := 45) rfl ?_); refine gl_ 12 Tryz.func45 (impl_copyTab.calls k _ _ l0_0 a0_1 t421 t424 _ (kC HR0_0) HC0_0.out A4.out) ?_; rintro e w10 ⟨v422, rfl, ho0, hb⟩; refine ⟨_, rfl, ?_⟩; have HO423 := Aside0.mk (Kd.S_lower ho0 (below_size oB)); replace BK419 := kb_ BK419 hb; replace BK420 := kb_ BK420 hb; replace HB := Aside0.mk (below_step oB hb); obtain ⟨Ao11, co11, eo11⟩ := Kd.S_slice HO423.out; subst eo11; obtain ⟨⟨_, _⟩, _, _⟩ := z2 BK419))
 (try simp only [Act.put, List.setIfInBounds_toArray, List.set_cons_zero, List.set_cons_succ])
 go_cut [22] (fun v22 wc => ∃ (kq : Nat) (x22_4 : Bool), v22 = .bool x22_4 ∧ Aside0 (impl_HardLink.j0 kq a1 a2 x22_4 t421 t424 = some (r1, r2, r3)) ∧ Aside0 (kq ≤ k) ∧ Aside0 (Kd.S k51 51 wc w.heap.size (fun _ => True) (.slice Ao11 t421.length co11) t421) ∧ Aside0 (wc.heap[gb419]? = some (.cells #[(.slice Ao11 t421.length co11), .int .i64 t424] 26 (0, 0))) ∧ Aside0 (wc.heap[gb420]? = some (.cells #[(.slice none 0 0), .int .i64 0] 26 (0, 0))) ∧ Aside0 (Below w.heap.size w wc))
 case first =>
  have H := HC5.out
  clear HC5
  obtain ⟨y425, hy425⟩ : ∃ y_ : List ByteArray, y_ = (([a1, a2] : List ByteArray)) := ⟨_, rfl⟩
  replace H : ((impl_ready.f k t421 t424 y425).bind fun t428 => (if t428 = true then (impl_HardLink.j0 k a1 a2 (a2.toList == ([47] : List UInt8)) t421 t424) else (impl_HardLink.j0 k a1 a2 true t421 t424))) = some (r1, r2, r3) := by first | (rw [hy425]; with_reducible exact H) | (have H2_ := (Option.bind_some _ _).symm.trans H; rw [hy425]; with_reducible exact H2_) | (have H2_ := (Option.bind_some _ _).symm.trans H; with_reducible exact H2_) | with_reducible exact H | (rw [hy425]; exact H) | exact H
  have Ny425 := Aside0.mk hy425
  clear hy425
  replace H := bA H
  obtain ⟨t428, A13, H⟩ := H
  try dsimp only at H
  replace H := itB H
  rcases H with ⟨rfl, H⟩ | ⟨rfl, H⟩
  ·have H' := Aside0.mk H
   clear H
   have hnb15 := NB419_420.out
   have hnc15 := NB420_419.out
   obtain ⟨⟨_, _⟩, _, _⟩ := z2 BK419
   go_wp2_with (first | ((with_reducible refine gate_dst (N := 16) rfl ?_); refine Kd.R_lit Kd.string _ 9 ?hg (N := 16) ?hd (xs := ([a1, a2] : List ByteArray)) (inner := [.string a1, .string a2]) (ok := fun _ => True) (okp := fun _ => True) ?hr ?hp (fun _ hk => hk) trivial (Below.refl _ _) (Nat.le_refl _) (by simp) ?_; (case hd => rfl); (case hg => rfl); (case hr => first | (go_simp; done) | (go_simp; rfl)); (case hp => exact (Reps.one (show Kd.M Kd.string _ _ _ a1 [.string a1] from rfl) (Reps.one (show Kd.M Kd.string _ _ _ a2 [.string a2] from rfl) (Reps.none _ _)))); intro v426 w17 ho18 hb hg_ hnew_; clear hg_ hnew_; (first | rw [← Ny425.out] at ho18 | (simp only [Int.reduceToNat] at ho18; rw [← Ny425.out] at ho18)); have HO427 := Aside0.mk (Kd.R_lower ho18 (below_size oB)); replace HO423 := beS1 HO423 BK419 hb; replace BK419 := kp_ #[.slice Ao11 t421.length co11, .int .i64 t424] BK419 hb; replace BK420 := kb_ BK420 hb; replace HB := Aside0.mk (below_step oB hb); clear hb ho18; obtain ⟨Ao19, co19, eo19⟩ := Kd.R_slice HO427.out; subst eo19) | ((with_reducible refine gate_callee (f := 46) rfl ?_); refine gl_ 17 Tryz.func46 (impl_ready.calls k _ _ t421 t424 _ _ y425 true _ (rcS0 HO423) (rnS HO423) (kO HO427) (ko HO427) A13.out) ?_; rintro e w20 ⟨rfl, hb⟩; refine ⟨_, rfl, ?_⟩; replace HO423 := beS0 HO423 hb; replace HO427 := kr_ HO427 hb; replace BK419 := kb_ BK419 hb; replace BK420 := kb_ BK420 hb; replace HB := Aside0.mk (below_step oB hb)))
   go_meet
   case rel => exact ⟨_, ((a2.toList == ([47] : List UInt8))), oS, H', ⟨by first | omega | exact Nat.le_refl _⟩, ⟨by (with_reducible repeat (first | apply Kd.S_alloc | apply Kd.S_drewN | apply Kd.S_drew)); exact HO423.out⟩, ⟨oF BK419⟩, ⟨oF BK420⟩, ⟨oB⟩⟩
  ·have H' := Aside0.mk H
   clear H
   have hnb21 := NB419_420.out
   have hnc21 := NB420_419.out
   obtain ⟨⟨_, _⟩, _, _⟩ := z2 BK419
   go_wp2_with (first | ((with_reducible refine gate_dst (N := 16) rfl ?_); refine Kd.R_lit Kd.string _ 9 ?hg (N := 16) ?hd (xs := ([a1, a2] : List ByteArray)) (inner := [.string a1, .string a2]) (ok := fun _ => True) (okp := fun _ => True) ?hr ?hp (fun _ hk => hk) trivial (Below.refl _ _) (Nat.le_refl _) (by simp) ?_; (case hd => rfl); (case hg => rfl); (case hr => first | (go_simp; done) | (go_simp; rfl)); (case hp => exact (Reps.one (show Kd.M Kd.string _ _ _ a1 [.string a1] from rfl) (Reps.one (show Kd.M Kd.string _ _ _ a2 [.string a2] from rfl) (Reps.none _ _)))); intro v426 w23 ho24 hb hg_ hnew_; clear hg_ hnew_; (first | rw [← Ny425.out] at ho24 | (simp only [Int.reduceToNat] at ho24; rw [← Ny425.out] at ho24)); have HO427 := Aside0.mk (Kd.R_lower ho24 (below_size oB)); replace HO423 := beS1 HO423 BK419 hb; replace BK419 := kp_ #[.slice Ao11 t421.length co11, .int .i64 t424] BK419 hb; replace BK420 := kb_ BK420 hb; replace HB := Aside0.mk (below_step oB hb); clear hb ho24; obtain ⟨Ao25, co25, eo25⟩ := Kd.R_slice HO427.out; subst eo25) | ((with_reducible refine gate_callee (f := 46) rfl ?_); refine gl_ 17 Tryz.func46 (impl_ready.calls k _ _ t421 t424 _ _ y425 false _ (rcS0 HO423) (rnS HO423) (kO HO427) (ko HO427) A13.out) ?_; rintro e w26 ⟨rfl, hb⟩; refine ⟨_, rfl, ?_⟩; replace HO423 := beS0 HO423 hb; replace HO427 := kr_ HO427 hb; replace BK419 := kb_ BK419 hb; replace BK420 := kb_ BK420 hb; replace HB := Aside0.mk (below_step oB hb)))
   go_meet
   case rel => exact ⟨_, (true), oS, H', ⟨by first | omega | exact Nat.le_refl _⟩, ⟨by (with_reducible repeat (first | apply Kd.S_alloc | apply Kd.S_drewN | apply Kd.S_drew)); exact HO423.out⟩, ⟨oF BK419⟩, ⟨oF BK420⟩, ⟨oB⟩⟩
 case rest =>
  clear HC5
  obtain ⟨kq, x22_4, rfl, HA, HJ4, HO_420000, BK419, BK420, HB⟩ := hcut
  cases kq with
  | zero => exact absurd HA.out (by simp [impl_HardLink.j0])
  | succ kj4 =>
   have H := HA.out
   clear HA
   simp only [impl_HardLink.j0] at H
   replace H := itB H
   rcases H with ⟨rfl, H⟩ | ⟨rfl, H⟩
   ·simp only [Option.some.injEq, Prod.mk.injEq] at H
    obtain ⟨rfl, rfl, rfl⟩ := H
    have hnb28 := NB419_420.out
    have hnc28 := NB420_419.out
    obtain ⟨⟨_, _⟩, _, _⟩ := z2 BK419
    obtain ⟨⟨_, _⟩, _, _⟩ := z2 BK420
    go_wp2
    refine bodyPost_ret (results_ct rfl _ _ gb420 26 #[.slice Ao11 t421.length co11, .int .i64 t424] (0, 0) _ rfl (oP BK420) Tryz.underlying26 rfl (by kernel_rfl)) rfl ?_
    exact ⟨_, oE, by (with_reducible repeat (first | apply Kd.S_alloc | apply Kd.S_drewN | apply Kd.S_drew)); exact Kd.S_mono (Kd.S_far (p := ⟨gb420, 1, none⟩) (Kd.S_far (p := ⟨gb420, 0, none⟩) (Kd.S_types HO_420000.out BK420.out (by decide)) (fun _ hk => hk.2) (.slice Ao11 t421.length co11)) (fun _ hk => hk.2) (.int .i64 t424)) (fun _ hk => trivial), oB⟩
   ·replace H := bA H
    obtain ⟨⟨t429, t430, t431, t432, t435, t438, t441⟩, A31, H⟩ := H
    try dsimp only at H
    by_cases c32 : t441 = 0
    ·rw [if_pos c32] at H
     have c32b0 : (t441 == 0) = true := beq_iff_eq.mpr c32
     have c32b1 : (t441 != 0) = false := bne_eq_false_iff_eq.mpr c32
     clear c32
     replace H := bA H
     obtain ⟨⟨t443, t444, t445, t446, t449, t452, t455, t456⟩, A33, H⟩ := H
     try dsimp only at H
     by_cases c34 : t456 = 0
     ·rw [if_pos c34] at H
      have c34b0 : (t456 == 0) = true := beq_iff_eq.mpr c34
      have c34b1 : (t456 != 0) = false := bne_eq_false_iff_eq.mpr c34
      clear c34
      replace H := bA H
      obtain ⟨t458, A35, H⟩ := H
      try dsimp only at H
      by_cases c36 : t458 = 0
      ·rw [if_pos c36] at H
       have c36b0 : (t458 == 0) = true := beq_iff_eq.mpr c36
       have c36b1 : (t458 != 0) = false := bne_eq_false_iff_eq.mpr c36
       clear c36
       by_cases c37 : (t449.length : Int) = 10
       ·rw [if_pos c37] at H
        have c37b0 : ((t449.length : Int) == 10) = true := beq_iff_eq.mpr c37
        have c37b1 : ((t449.length : Int) != 10) = false := bne_eq_false_iff_eq.mpr c37
        clear c37
        simp only [Option.some.injEq, Prod.mk.injEq] at H
        obtain ⟨rfl, rfl, rfl⟩ := H
        have hnb38 := NB419_420.out
        have hnc38 := NB420_419.out
        obtain ⟨⟨_, _⟩, _, _⟩ := z2 BK419
        go_wp2_with (first | ((with_reducible refine gate_callee (f := 48) rfl ?_); refine gl_ 27 Tryz.func48 (impl_fileAt.calls kj4 _ _ t421 t424 a1 t429 t430 t431 t432 t435 t438 t441 _ (rcS0 HO_420000) (rnS HO_420000) A31.out) ?_; rintro e w40 ⟨v433, v436, v439, rfl, ho0, ho1, ho2, hb⟩; refine ⟨_, rfl, ?_⟩; have HO434 := Aside0.mk (Kd.R_lower ho0 (below_size oB)); have HO437 := Aside0.mk (Kd.R_lower ho1 (below_size oB)); have HO440 := Aside0.mk (Kd.R_lower ho2 (below_size oB)); replace HO_420000 := tdS3 (olS0 HO_420000 hb) (Kd.R_base ho0) (Kd.R_base ho1) (Kd.R_base ho2); replace BK419 := kb_ BK419 hb; replace BK420 := kb_ BK420 hb; replace HB := Aside0.mk (below_step oB hb); (try clear ho1); (try clear ho2)) | ((with_reducible refine gate_dst (N := 8) rfl ?_); refine bx_ 8 #[.int .i64 0, .int .i64 0, .int .i64 0, .slice none 0 0, .slice none 0 0, .slice none 0 0] 51 ?_; intro gb442 hg w41 hbox hb; have BK442 := Aside0.mk (hbox); have GW442 := gs_ hg; have NB419_442 := nl_ hg BK419; have NB442_419 := nr_ hg BK419; have NB420_442 := nl_ hg BK420; have NB442_420 := nr_ hg BK420; replace HO_420000 := Aside0.mk (Kd.S_below (Kd.S_elderB (nS0 HO_420000) gb442 (Nat.le_of_eq hg.symm)) hb); replace HO434 := kr_ HO434 hb; replace HO437 := kr_ HO437 hb; replace HO440 := kr_ HO440 hb; replace BK419 := kb_ BK419 hb; replace BK420 := kb_ BK420 hb; replace HB := Aside0.mk (below_step oB hb); clear hb hbox hg; have hnb42 := NB442_419.out; have hnc42 := NB419_442.out; have hnb43 := NB442_420.out; have hnc43 := NB420_442.out; obtain ⟨⟨_, _, _, _, _, _⟩, _, _, _, _, _, _⟩ := z6 BK442; obtain ⟨Ao45, co45, eo45⟩ := Kd.R_slice HO434.out; subst eo45; obtain ⟨Ao46, co46, eo46⟩ := Kd.R_slice HO437.out; subst eo46; obtain ⟨Ao47, co47, eo47⟩ := Kd.R_slice HO440.out; subst eo47; obtain ⟨⟨_, _⟩, _, _⟩ := z2 BK419) | ((with_reducible refine gate_callee (f := 57) rfl ?_); refine gl_ 37 Tryz.func57 (impl_spotOf.calls kj4 _ _ t421 t424 a2 t443 t444 t445 t446 t449 t452 t455 t456 _ (rcS2 HO_420000 gb442 (fun _ hk => hk.2)) (rnS HO_420000) A33.out) ?_; rintro e w49 ⟨v447, v450, v453, rfl, ho0, ho1, ho2, hb⟩; refine ⟨_, rfl, ?_⟩; have HO448 := Aside0.mk (Kd.R_lower (Kd.R_new' ho0 (ltR1 HO434 BK442)) (below_size oB)); have HO451 := Aside0.mk (Kd.R_lower (Kd.R_new' ho1 (ltR1 HO437 BK442)) (below_size oB)); have HO454 := Aside0.mk (Kd.R_lower (Kd.R_new' ho2 (ltR1 HO440 BK442)) (below_size oB)); replace HO_420000 := tdS3 (olS2 HO_420000 gb442 (fun _ hk => hk.2) hb) (Kd.R_base ho0) (Kd.R_base ho1) (Kd.R_base ho2); replace HO434 := elR1 HO434 BK442 (Kd.R_base ho0) hb; replace HO437 := elR1 HO437 BK442 (Kd.R_base ho1) hb; replace HO440 := elR1 HO440 BK442 (Kd.R_base ho2) hb; replace BK419 := kb_ BK419 hb; replace BK420 := kb_ BK420 hb; replace BK442 := kp_ #[.int .i64 t429, .int .i64 t430, .int .i64 t431, .slice Ao45 t432.length co45, .slice Ao46 t435.length co46, .slice Ao47 t438.length co47] BK442 hb; replace HB := Aside0.mk (below_step oB hb); (try clear hk); (try clear ho1); (try clear ho2)) | ((with_reducible refine gate_dst (N := 10) rfl ?_); refine bx_ 10 #[.int .i64 0, .int .i64 0, .int .i64 0, .slice none 0 0, .slice none 0 0, .slice none 0 0, .string (⟨#[]⟩ : ByteArray)] 84 ?_; intro gb457 hg w50 hbox hb; have BK457 := Aside0.mk (hbox); have GW457 := gs_ hg; have NB419_457 := nl_ hg BK419; have NB457_419 := nr_ hg BK419; have NB420_457 := nl_ hg BK420; have NB457_420 := nr_ hg BK420; have NB442_457 := nl_ hg BK442; have NB457_442 := nr_ hg BK442; replace HO_420000 := beS0 HO_420000 hb; replace HO434 := kr_ HO434 hb; replace HO437 := kr_ HO437 hb; replace HO440 := kr_ HO440 hb; replace HO448 := kr_ HO448 hb; replace HO451 := kr_ HO451 hb; replace HO454 := kr_ HO454 hb; replace BK419 := kb_ BK419 hb; replace BK420 := kb_ BK420 hb; replace BK442 := kb_ BK442 hb; replace HB := Aside0.mk (below_step oB hb); clear hb hbox hg; have hnb51 := NB457_419.out; have hnc51 := NB419_457.out; have hnb52 := NB457_420.out; have hnc52 := NB420_457.out; have hnb53 := NB457_442.out; have hnc53 := NB442_457.out; obtain ⟨⟨_, _, _, _, _, _, _⟩, _, _, _, _, _, _, _⟩ := z7 BK457; obtain ⟨Ao55, co55, eo55⟩ := Kd.R_slice HO448.out; subst eo55; obtain ⟨Ao56, co56, eo56⟩ := Kd.R_slice HO451.out; subst eo56; obtain ⟨Ao57, co57, eo57⟩ := Kd.R_slice HO454.out; subst eo57) | ((with_reducible refine gate_callee (f := 58) rfl ?_); refine gl_ 50 Tryz.func58 (impl_EntOf.calls kj4 t443 t444 t445 _ _ t446 _ _ t449 _ _ t452 t455 t458 _ (rcR1 HO448 BK457) (ko HO448) (rcR1 HO451 BK457) (ko HO451) (rcR1 HO454 BK457) (ko HO454) A35.out) ?_; rintro e w58 ⟨rfl, hb⟩; refine ⟨_, rfl, ?_⟩; replace HO_420000 := beS1 HO_420000 BK457 hb; replace HO434 := beR1 HO434 BK457 hb; replace HO437 := beR1 HO437 BK457 hb; replace HO440 := beR1 HO440 BK457 hb; replace HO448 := beR1 HO448 BK457 hb; replace HO451 := beR1 HO451 BK457 hb; replace HO454 := beR1 HO454 BK457 hb; replace BK419 := kb_ BK419 hb; replace BK420 := kb_ BK420 hb; replace BK442 := kb_ BK442 hb; replace BK457 := kp_ #[.int .i64 t443, .int .i64 t444, .int .i64 t445, .slice Ao55 t446.length co55, .slice Ao56 t449.length co56, .slice Ao57 t452.length co57, .string t455] BK457 hb; replace HB := Aside0.mk (below_step oB hb); (try clear hk); obtain ⟨⟨_, _, _, _, _, _, _⟩, _, _, _, _, _, _, _⟩ := z7 BK457; obtain ⟨⟨_, _⟩, _, _⟩ := z2 BK419; obtain ⟨⟨_, _⟩, _, _⟩ := z2 BK420))
        refine bodyPost_ret (results_ct rfl _ _ gb420 26 #[.slice Ao11 t421.length co11, .int .i64 t424] (0, 0) _ rfl (oP BK420) Tryz.underlying26 rfl (by kernel_rfl)) rfl ?_
        exact ⟨_, oE, by (with_reducible repeat (first | apply Kd.S_alloc | apply Kd.S_drewN | apply Kd.S_drew)); exact Kd.S_mono (Kd.S_far (p := ⟨gb420, 1, none⟩) (Kd.S_far (p := ⟨gb420, 0, none⟩) (Kd.S_types HO_420000.out BK420.out (by decide)) (fun _ hk => hk.2) (.slice Ao11 t421.length co11)) (fun _ hk => hk.2) (.int .i64 t424)) (fun _ hk => trivial), oB⟩
       ·rw [if_neg c37] at H
        have c37b0 : ((t449.length : Int) == 10) = false := beq_eq_false_iff_ne.mpr c37
        have c37b1 : ((t449.length : Int) != 10) = true := bne_iff_ne.mpr c37
        replace H := bA H
        obtain ⟨⟨t459, t462⟩, A62, H⟩ := H
        try dsimp only at H
        replace H := bA H
        obtain ⟨⟨t463, t466⟩, A63, H⟩ := H
        try dsimp only at H
        simp only [Option.some.injEq, Prod.mk.injEq] at H
        obtain ⟨rfl, rfl, rfl⟩ := H
        have hnb64 := NB419_420.out
        have hnc64 := NB420_419.out
        obtain ⟨⟨_, _⟩, _, _⟩ := z2 BK419
        try go_wp2_with (first | ((with_reducible refine gate_callee (f := 48) rfl ?_); refine gl_ 27 Tryz.func48 (impl_fileAt.calls kj4 _ _ t421 t424 a1 t429 t430 t431 t432 t435 t438 t441 _ (rcS0 HO_420000) (rnS HO_420000) A31.out) ?_; rintro e w66 ⟨v433, v436, v439, rfl, ho0, ho1, ho2, hb⟩; refine ⟨_, rfl, ?_⟩; have HO434 := Aside0.mk (Kd.R_lower ho0 (below_size oB)); have HO437 := Aside0.mk (Kd.R_lower ho1 (below_size oB)); have HO440 := Aside0.mk (Kd.R_lower ho2 (below_size oB)); replace HO_420000 := tdS3 (olS0 HO_420000 hb) (Kd.R_base ho0) (Kd.R_base ho1) (Kd.R_base ho2); replace BK419 := kb_ BK419 hb; replace BK420 := kb_ BK420 hb; replace HB := Aside0.mk (below_step oB hb); (try clear ho1); (try clear ho2)) | ((with_reducible refine gate_dst (N := 8) rfl ?_); refine bx_ 8 #[.int .i64 0, .int .i64 0, .int .i64 0, .slice none 0 0, .slice none 0 0, .slice none 0 0] 51 ?_; intro gb442 hg w67 hbox hb; have BK442 := Aside0.mk (hbox); have GW442 := gs_ hg; have NB419_442 := nl_ hg BK419; have NB442_419 := nr_ hg BK419; have NB420_442 := nl_ hg BK420; have NB442_420 := nr_ hg BK420; replace HO_420000 := Aside0.mk (Kd.S_below (Kd.S_elderB (nS0 HO_420000) gb442 (Nat.le_of_eq hg.symm)) hb); replace HO434 := kr_ HO434 hb; replace HO437 := kr_ HO437 hb; replace HO440 := kr_ HO440 hb; replace BK419 := kb_ BK419 hb; replace BK420 := kb_ BK420 hb; replace HB := Aside0.mk (below_step oB hb); clear hb hbox hg; have hnb68 := NB442_419.out; have hnc68 := NB419_442.out; have hnb69 := NB442_420.out; have hnc69 := NB420_442.out; obtain ⟨⟨_, _, _, _, _, _⟩, _, _, _, _, _, _⟩ := z6 BK442; obtain ⟨Ao71, co71, eo71⟩ := Kd.R_slice HO434.out; subst eo71; obtain ⟨Ao72, co72, eo72⟩ := Kd.R_slice HO437.out; subst eo72; obtain ⟨Ao73, co73, eo73⟩ := Kd.R_slice HO440.out; subst eo73; obtain ⟨⟨_, _⟩, _, _⟩ := z2 BK419) | ((with_reducible refine gate_callee (f := 57) rfl ?_); refine gl_ 37 Tryz.func57 (impl_spotOf.calls kj4 _ _ t421 t424 a2 t443 t444 t445 t446 t449 t452 t455 t456 _ (rcS2 HO_420000 gb442 (fun _ hk => hk.2)) (rnS HO_420000) A33.out) ?_; rintro e w75 ⟨v447, v450, v453, rfl, ho0, ho1, ho2, hb⟩; refine ⟨_, rfl, ?_⟩; have HO448 := Aside0.mk (Kd.R_lower (Kd.R_new' ho0 (ltR1 HO434 BK442)) (below_size oB)); have HO451 := Aside0.mk (Kd.R_lower (Kd.R_new' ho1 (ltR1 HO437 BK442)) (below_size oB)); have HO454 := Aside0.mk (Kd.R_lower (Kd.R_new' ho2 (ltR1 HO440 BK442)) (below_size oB)); replace HO_420000 := tdS3 (olS2 HO_420000 gb442 (fun _ hk => hk.2) hb) (Kd.R_base ho0) (Kd.R_base ho1) (Kd.R_base ho2); replace HO434 := elR1 HO434 BK442 (Kd.R_base ho0) hb; replace HO437 := elR1 HO437 BK442 (Kd.R_base ho1) hb; replace HO440 := elR1 HO440 BK442 (Kd.R_base ho2) hb; replace BK419 := kb_ BK419 hb; replace BK420 := kb_ BK420 hb; replace BK442 := kp_ #[.int .i64 t429, .int .i64 t430, .int .i64 t431, .slice Ao71 t432.length co71, .slice Ao72 t435.length co72, .slice Ao73 t438.length co73] BK442 hb; replace HB := Aside0.mk (below_step oB hb); (try clear hk); (try clear ho1); (try clear ho2)) | ((with_reducible refine gate_dst (N := 10) rfl ?_); refine bx_ 10 #[.int .i64 0, .int .i64 0, .int .i64 0, .slice none 0 0, .slice none 0 0, .slice none 0 0, .string (⟨#[]⟩ : ByteArray)] 84 ?_; intro gb457 hg w76 hbox hb; have BK457 := Aside0.mk (hbox); have GW457 := gs_ hg; have NB419_457 := nl_ hg BK419; have NB457_419 := nr_ hg BK419; have NB420_457 := nl_ hg BK420; have NB457_420 := nr_ hg BK420; have NB442_457 := nl_ hg BK442; have NB457_442 := nr_ hg BK442; replace HO_420000 := beS0 HO_420000 hb; replace HO434 := kr_ HO434 hb; replace HO437 := kr_ HO437 hb; replace HO440 := kr_ HO440 hb; replace HO448 := kr_ HO448 hb; replace HO451 := kr_ HO451 hb; replace HO454 := kr_ HO454 hb; replace BK419 := kb_ BK419 hb; replace BK420 := kb_ BK420 hb; replace BK442 := kb_ BK442 hb; replace HB := Aside0.mk (below_step oB hb); clear hb hbox hg; have hnb77 := NB457_419.out; have hnc77 := NB419_457.out; have hnb78 := NB457_420.out; have hnc78 := NB420_457.out; have hnb79 := NB457_442.out; have hnc79 := NB442_457.out; obtain ⟨⟨_, _, _, _, _, _, _⟩, _, _, _, _, _, _, _⟩ := z7 BK457; obtain ⟨Ao81, co81, eo81⟩ := Kd.R_slice HO448.out; subst eo81; obtain ⟨Ao82, co82, eo82⟩ := Kd.R_slice HO451.out; subst eo82; obtain ⟨Ao83, co83, eo83⟩ := Kd.R_slice HO454.out; subst eo83) | ((with_reducible refine gate_callee (f := 58) rfl ?_); refine gl_ 50 Tryz.func58 (impl_EntOf.calls kj4 t443 t444 t445 _ _ t446 _ _ t449 _ _ t452 t455 t458 _ (rcR1 HO448 BK457) (ko HO448) (rcR1 HO451 BK457) (ko HO451) (rcR1 HO454 BK457) (ko HO454) A35.out) ?_; rintro e w84 ⟨rfl, hb⟩; refine ⟨_, rfl, ?_⟩; replace HO_420000 := beS1 HO_420000 BK457 hb; replace HO434 := beR1 HO434 BK457 hb; replace HO437 := beR1 HO437 BK457 hb; replace HO440 := beR1 HO440 BK457 hb; replace HO448 := beR1 HO448 BK457 hb; replace HO451 := beR1 HO451 BK457 hb; replace HO454 := beR1 HO454 BK457 hb; replace BK419 := kb_ BK419 hb; replace BK420 := kb_ BK420 hb; replace BK442 := kb_ BK442 hb; replace BK457 := kp_ #[.int .i64 t443, .int .i64 t444, .int .i64 t445, .slice Ao81 t446.length co81, .slice Ao82 t449.length co82, .slice Ao83 t452.length co83, .string t455] BK457 hb; replace HB := Aside0.mk (below_step oB hb); (try clear hk); obtain ⟨⟨_, _, _, _, _, _, _⟩, _, _, _, _, _, _, _⟩ := z7 BK457; obtain ⟨⟨_, _, _, _, _, _⟩, _, _, _, _, _, _⟩ := z6 BK442))
        have n0_ : Aside0 (Kd.S k51 51 (w84.setCell ⟨gb442, 2, none⟩ (.int .i64 (wrap64 (t431 + 1)))) w.heap.size (fun k_ => some k_ ≠ (.slice Ao71 t432.length co71 : Value).ownBlock ∧ some k_ ≠ (.slice Ao72 t435.length co72 : Value).ownBlock ∧ some k_ ≠ (.slice Ao73 t438.length co73 : Value).ownBlock ∧ some k_ ≠ (.slice Ao81 t446.length co81 : Value).ownBlock ∧ some k_ ≠ (.slice Ao82 t449.length co82 : Value).ownBlock ∧ some k_ ≠ (.slice Ao83 t452.length co83 : Value).ownBlock ∧ k_ ≠ gb442) (.slice Ao11 t421.length co11) t421) := ⟨by (with_reducible repeat (first | apply Kd.S_alloc | apply Kd.S_drewN | apply Kd.S_drew)); exact Kd.S_mono (Kd.S_far (p := ⟨gb442, 2, none⟩) (Kd.S_mono HO_420000.out (fun k_ hk => (⟨hk, hk.1.1.1.2⟩ : _ ∧ k_ ≠ gb442))) (fun _ hk => hk.2) (.int .i64 (wrap64 (t431 + 1)))) (fun _ hk => ⟨hk.1.1.1.1.1.1.1.2, ⟨hk.1.1.1.1.1.1.2, ⟨hk.1.1.1.1.1.2, ⟨hk.1.1.1.2, ⟨hk.1.1.2, ⟨hk.1.2, hk.1.1.1.1.2⟩⟩⟩⟩⟩⟩)⟩
        have n1_ : Aside0 (Kd.R (Kd.int .u8) 5 (w84.setCell ⟨gb442, 2, none⟩ (.int .i64 (wrap64 (t431 + 1)))) w.heap.size (fun k_ => some k_ ≠ (.slice Ao81 t446.length co81 : Value).ownBlock) (.slice Ao71 t432.length co71) t432) := ⟨by (with_reducible repeat (first | apply Kd.R_alloc | apply Kd.R_drewN | apply Kd.R_drew)); exact Kd.R_mono (Kd.R_far (p := ⟨gb442, 2, none⟩) (Kd.R_types HO434.out BK442.out (by decide)) (fun _ hk => hk.2) (.int .i64 (wrap64 (t431 + 1)))) (fun _ hk => hk.1.2)⟩
        have n2_ : Aside0 (Kd.R k65 65 (w84.setCell ⟨gb442, 2, none⟩ (.int .i64 (wrap64 (t431 + 1)))) w.heap.size (fun k_ => some k_ ≠ (.slice Ao82 t449.length co82 : Value).ownBlock) (.slice Ao72 t435.length co72) t435) := ⟨by (with_reducible repeat (first | apply Kd.R_alloc | apply Kd.R_drewN | apply Kd.R_drew)); exact Kd.R_mono (Kd.R_far (p := ⟨gb442, 2, none⟩) (Kd.R_types HO437.out BK442.out (by decide)) (fun _ hk => hk.2) (.int .i64 (wrap64 (t431 + 1)))) (fun _ hk => hk.1.2)⟩
        have n3_ : Aside0 (Kd.R k71 71 (w84.setCell ⟨gb442, 2, none⟩ (.int .i64 (wrap64 (t431 + 1)))) w.heap.size (fun k_ => some k_ ≠ (.slice Ao83 t452.length co83 : Value).ownBlock) (.slice Ao73 t438.length co73) t438) := ⟨by (with_reducible repeat (first | apply Kd.R_alloc | apply Kd.R_drewN | apply Kd.R_drew)); exact Kd.R_mono (Kd.R_far (p := ⟨gb442, 2, none⟩) (Kd.R_types HO440.out BK442.out (by decide)) (fun _ hk => hk.2) (.int .i64 (wrap64 (t431 + 1)))) (fun _ hk => hk.1.2)⟩
        have n4_ : Aside0 (Kd.R (Kd.int .u8) 5 (w84.setCell ⟨gb442, 2, none⟩ (.int .i64 (wrap64 (t431 + 1)))) w.heap.size (fun k_ => some k_ ≠ (.slice Ao71 t432.length co71 : Value).ownBlock) (.slice Ao81 t446.length co81) t446) := ⟨by (with_reducible repeat (first | apply Kd.R_alloc | apply Kd.R_drewN | apply Kd.R_drew)); exact Kd.R_mono (Kd.R_far (p := ⟨gb442, 2, none⟩) (Kd.R_types HO448.out BK442.out (by decide)) (fun _ hk => hk.2) (.int .i64 (wrap64 (t431 + 1)))) (fun _ hk => hk.1.2)⟩
        have n5_ : Aside0 (Kd.R k65 65 (w84.setCell ⟨gb442, 2, none⟩ (.int .i64 (wrap64 (t431 + 1)))) w.heap.size (fun k_ => some k_ ≠ (.slice Ao72 t435.length co72 : Value).ownBlock) (.slice Ao82 t449.length co82) t449) := ⟨by (with_reducible repeat (first | apply Kd.R_alloc | apply Kd.R_drewN | apply Kd.R_drew)); exact Kd.R_mono (Kd.R_far (p := ⟨gb442, 2, none⟩) (Kd.R_types HO451.out BK442.out (by decide)) (fun _ hk => hk.2) (.int .i64 (wrap64 (t431 + 1)))) (fun _ hk => hk.1.2)⟩
        have n6_ : Aside0 (Kd.R k71 71 (w84.setCell ⟨gb442, 2, none⟩ (.int .i64 (wrap64 (t431 + 1)))) w.heap.size (fun k_ => some k_ ≠ (.slice Ao73 t438.length co73 : Value).ownBlock) (.slice Ao83 t452.length co83) t452) := ⟨by (with_reducible repeat (first | apply Kd.R_alloc | apply Kd.R_drewN | apply Kd.R_drew)); exact Kd.R_mono (Kd.R_far (p := ⟨gb442, 2, none⟩) (Kd.R_types HO454.out BK442.out (by decide)) (fun _ hk => hk.2) (.int .i64 (wrap64 (t431 + 1)))) (fun _ hk => hk.1.2)⟩
        have n7_ : Aside0 ((w84.setCell ⟨gb442, 2, none⟩ (.int .i64 (wrap64 (t431 + 1)))).heap[gb419]? = some (.cells #[.slice Ao11 t421.length co11, .int .i64 t424] 26 (0, 0))) := ⟨oF BK419⟩
        have n8_ : Aside0 ((w84.setCell ⟨gb442, 2, none⟩ (.int .i64 (wrap64 (t431 + 1)))).heap[gb420]? = some (.cells #[.slice none 0 0, .int .i64 0] 26 (0, 0))) := ⟨oF BK420⟩
        have n9_ : Aside0 ((w84.setCell ⟨gb442, 2, none⟩ (.int .i64 (wrap64 (t431 + 1)))).heap[gb442]? = some (.cells #[.int .i64 t429, .int .i64 t430, .int .i64 (wrap64 (t431 + 1)), .slice Ao71 t432.length co71, .slice Ao72 t435.length co72, .slice Ao73 t438.length co73] 51 (0, 0))) := ⟨oP BK442⟩
        have n10_ : Aside0 ((w84.setCell ⟨gb442, 2, none⟩ (.int .i64 (wrap64 (t431 + 1)))).heap[gb457]? = some (.cells #[.int .i64 t443, .int .i64 t444, .int .i64 t445, .slice Ao81 t446.length co81, .slice Ao82 t449.length co82, .slice Ao83 t452.length co83, .string t455] 84 (0, 0))) := ⟨oF BK457⟩
        have n11_ : Aside0 (Below w.heap.size w (w84.setCell ⟨gb442, 2, none⟩ (.int .i64 (wrap64 (t431 + 1))))) := ⟨oB⟩
        (try clear HO_420000)
        (try clear HO434)
        (try clear HO437)
        (try clear HO440)
        (try clear HO448)
        (try clear HO451)
        (try clear HO454)
        (try clear BK419)
        (try clear BK420)
        (try clear BK442)
        (try clear BK457)
        (try clear HB)
        generalize (w84.setCell ⟨gb442, 2, none⟩ (.int .i64 (wrap64 (t431 + 1)))) = w87 at n0_ n1_ n2_ n3_ n4_ n5_ n6_ n7_ n8_ n9_ n10_ n11_ ⊢
        have HO_420000 := n0_
        have HO434 := n1_
        have HO437 := n2_
        have HO440 := n3_
        have HO448 := n4_
        have HO451 := n5_
        have HO454 := n6_
        have BK419 := n7_
        have BK420 := n8_
        have BK442 := n9_
        have BK457 := n10_
        have HB := n11_
        clear n0_ n1_ n2_ n3_ n4_ n5_ n6_ n7_ n8_ n9_ n10_ n11_
        replace HO_420000 := Aside0.mk (Kd.S_drew HO_420000.out)
        replace HO434 := Aside0.mk (Kd.R_drew HO434.out)
        replace HO437 := Aside0.mk (Kd.R_drew HO437.out)
        replace HO440 := Aside0.mk (Kd.R_drew HO440.out)
        replace HO448 := Aside0.mk (Kd.R_drew HO448.out)
        replace HO451 := Aside0.mk (Kd.R_drew HO451.out)
        replace HO454 := Aside0.mk (Kd.R_drew HO454.out)
        replace BK419 := Aside0.mk (blk_drew BK419.out)
        replace BK420 := Aside0.mk (blk_drew BK420.out)
        replace BK442 := Aside0.mk (blk_drew BK442.out)
        replace BK457 := Aside0.mk (blk_drew BK457.out)
        replace HB := Aside0.mk (below_drew1 HB.out)
        refine st_ 9 (fun w' => w'.cell? ⟨gb457, 0, none⟩ = some (.int .i64 t443) ∧ w'.cell? ⟨gb457, 1, none⟩ = some (.int .i64 t444) ∧ w'.cell? ⟨gb457, 2, none⟩ = some (.int .i64 t445) ∧ w'.cell? ⟨gb457, 3, none⟩ = some (.slice Ao81 t446.length co81) ∧ w'.cell? ⟨gb457, 4, none⟩ = some (.slice Ao82 t449.length co82) ∧ w'.cell? ⟨gb457, 5, none⟩ = some (.slice Ao83 t452.length co83) ∧ w'.cell? ⟨gb457, 6, none⟩ = some (.string t455) ∧ w'.cell? ⟨gb419, 0, none⟩ = some (.slice Ao11 t421.length co11) ∧ w'.cell? ⟨gb419, 1, none⟩ = some (.int .i64 t424) ∧ w'.cell? ⟨gb442, 0, none⟩ = some (.int .i64 t429) ∧ w'.cell? ⟨gb442, 1, none⟩ = some (.int .i64 t430) ∧ w'.cell? ⟨gb442, 2, none⟩ = some (.int .i64 (wrap64 (t431 + 1))) ∧ w'.cell? ⟨gb442, 3, none⟩ = some (.slice Ao71 t432.length co71) ∧ w'.cell? ⟨gb442, 4, none⟩ = some (.slice Ao72 t435.length co72) ∧ w'.cell? ⟨gb442, 5, none⟩ = some (.slice Ao73 t438.length co73)) impl_HardLink.tab15 impl_HardLink.bits15 oH (fun hHeld HT_ HW_ => ?_)
        generalize w87.drew = w88 at HO_420000 HO434 HO437 HO440 HO448 HO451 HO454 BK419 BK420 BK442 BK457 HB hHeld ⊢
        refine pu_ 2 66 HT_ ?_
        refine ta_ 0 64 HT_ HW_ hHeld ?_
        refine ta_ 1 65 HT_ HW_ hHeld ?_
        refine ta_ 3 67 HT_ HW_ hHeld ?_
        refine ta_ 5 69 HT_ HW_ hHeld ?_
        refine on_ 4 68 HT_ (fun K hK => ?_)
        refine gr_ 68 Tryz.func59 (impl_spot_enter.calls kj4 t443 t444 t445 _ _ t446 _ _ t449 _ _ t452 t455 _ _ t421 t424 t429 t459 t462 _ (kO HO448) (ko HO448) (kO HO451) (ko HO451) (kO HO454) (ko HO454) (rcS0 HO_420000) (rnS HO_420000) A62.out) ?_
        rintro e w89 ⟨v460, rfl, ho0, hb⟩
        refine ⟨_, rfl, ?_⟩
        have HO461 := Aside0.mk (Kd.S_lower (Kd.S_newB (Kd.S_new' (Kd.S_new' (Kd.S_new' (Kd.S_new' (Kd.S_new' (Kd.S_new' (Kd.S_new' ho0 (ltS0 HO_420000)) (kl_ HO434)) (kl_ HO437)) (kl_ HO440)) (kl_ HO448)) (kl_ HO451)) (kl_ HO454)) (g := gb442) (o := .cells #[.int .i64 t429, .int .i64 t430, .int .i64 (wrap64 (t431 + 1)), .slice Ao71 t432.length co71, .slice Ao72 t435.length co72, .slice Ao73 t438.length co73] 51 (0, 0)) (oF BK442)) (below_size oB))
        replace HO_420000 := elS0 HO_420000 (Kd.S_base ho0) hb
        replace HO434 := kr_ HO434 hb
        replace HO437 := kr_ HO437 hb
        replace HO440 := kr_ HO440 hb
        replace HO448 := kr_ HO448 hb
        replace HO451 := kr_ HO451 hb
        replace HO454 := kr_ HO454 hb
        replace BK419 := kb_ BK419 hb
        replace BK420 := kb_ BK420 hb
        replace BK442 := kb_ BK442 hb
        replace BK457 := kb_ BK457 hb
        replace HB := Aside0.mk (below_step oB hb)
        obtain ⟨Ao90, co90, eo90⟩ := Kd.S_slice HO461.out
        (first | subst eo90 | (injection eo90 with f1_ f2_ f3_; have f4_ := f1_.symm; have f5_ := f3_.symm; clear f1_ f2_ f3_; subst f4_; subst f5_))
        refine hk_ hK 68 oH (fun hHeld => ?_)
        clear hK K
        refine on_ 6 70 HT_ (fun K hK => ?_)
        refine gr_ 70 Tryz.func50 (impl_SetInode.calls kj4 _ _ t459 t462 t429 t430 (wrap64 (t431 + 1)) _ _ t432 _ _ t435 _ _ t438 t463 t466 _ (rcS0 HO461) (rnS HO461) (kO HO434) (ko HO434) (kO HO437) (ko HO437) (kO HO440) (ko HO440) A63.out) ?_
        rintro e w91 ⟨v464, rfl, ho0, hb⟩
        refine ⟨_, rfl, ?_⟩
        have HO465 := Aside0.mk (Kd.S_lower (Kd.S_newB (Kd.S_new' (Kd.S_new' (Kd.S_new' (Kd.S_new' (Kd.S_new' (Kd.S_new' (Kd.S_new' (Kd.S_new' ho0 (ltS0 HO_420000)) (kl_ HO434)) (kl_ HO437)) (kl_ HO440)) (kl_ HO448)) (kl_ HO451)) (kl_ HO454)) (ltS0 HO461)) (g := gb442) (o := .cells #[.int .i64 t429, .int .i64 t430, .int .i64 (wrap64 (t431 + 1)), .slice Ao71 t432.length co71, .slice Ao72 t435.length co72, .slice Ao73 t438.length co73] 51 (0, 0)) (oF BK442)) (below_size oB))
        replace HO_420000 := elS0 HO_420000 (Kd.S_base ho0) hb
        replace HO434 := kr_ HO434 hb
        replace HO437 := kr_ HO437 hb
        replace HO440 := kr_ HO440 hb
        replace HO448 := kr_ HO448 hb
        replace HO451 := kr_ HO451 hb
        replace HO454 := kr_ HO454 hb
        replace HO461 := elS0 HO461 (Kd.S_base ho0) hb
        replace BK419 := kb_ BK419 hb
        replace BK420 := kb_ BK420 hb
        replace BK442 := kb_ BK442 hb
        replace BK457 := kb_ BK457 hb
        replace HB := Aside0.mk (below_step oB hb)
        obtain ⟨Ao92, co92, eo92⟩ := Kd.S_slice HO465.out
        (first | subst eo92 | (injection eo92 with f1_ f2_ f3_; have f4_ := f1_.symm; have f5_ := f3_.symm; clear f1_ f2_ f3_; subst f4_; subst f5_))
        refine hk_ hK 70 oH (fun hHeld => ?_)
        clear hK K
        refine one_ (i := 7) (N := none) (lb 9 255) rfl rfl (one_of HT_.out (by kernel_rfl)) (by decide) (fun K hK => ?_)
        have hs93 : w91.cell? ⟨gb420, 0, none⟩ = some (.slice none 0 0) := (blk_cell BK420.out 0).trans rfl
        have hfs93 := blk_frozen BK420.out 0
        have hns93_0 := NB419_420.out
        have hns93_2 := NB442_420.out
        have hns93_3 := NB457_420.out
        have hms93_0 := NB420_419.out
        have hms93_2 := NB420_442.out
        have hms93_3 := NB420_457.out
        have hs94 : w91.cell? ⟨gb420, 1, none⟩ = some (.int .i64 0) := (blk_cell BK420.out 1).trans rfl
        have hfs94 := blk_frozen BK420.out 1
        have hns94_0 := NB419_420.out
        have hns94_2 := NB442_420.out
        have hns94_3 := NB457_420.out
        have hms94_0 := NB420_419.out
        have hms94_2 := NB420_442.out
        have hms94_3 := NB420_457.out
        refine skip_ (w1 := ?_) (by rfl) rfl ?_ ?_
        rotate_left
        ·go_simp
         rfl
        refine hK.out _ _ ⟨((cell_far (p := ⟨gb420, _, none⟩) NB457_420.out _).trans (((cell_far (p := ⟨gb420, _, none⟩) NB457_420.out _).trans (hHeld.1)))), ((cell_far (p := ⟨gb420, _, none⟩) NB457_420.out _).trans (((cell_far (p := ⟨gb420, _, none⟩) NB457_420.out _).trans (hHeld.2.1)))), ((cell_far (p := ⟨gb420, _, none⟩) NB457_420.out _).trans (((cell_far (p := ⟨gb420, _, none⟩) NB457_420.out _).trans (hHeld.2.2.1)))), ((cell_far (p := ⟨gb420, _, none⟩) NB457_420.out _).trans (((cell_far (p := ⟨gb420, _, none⟩) NB457_420.out _).trans (hHeld.2.2.2.1)))), ((cell_far (p := ⟨gb420, _, none⟩) NB457_420.out _).trans (((cell_far (p := ⟨gb420, _, none⟩) NB457_420.out _).trans (hHeld.2.2.2.2.1)))), ((cell_far (p := ⟨gb420, _, none⟩) NB457_420.out _).trans (((cell_far (p := ⟨gb420, _, none⟩) NB457_420.out _).trans (hHeld.2.2.2.2.2.1)))), ((cell_far (p := ⟨gb420, _, none⟩) NB457_420.out _).trans (((cell_far (p := ⟨gb420, _, none⟩) NB457_420.out _).trans (hHeld.2.2.2.2.2.2.1)))), ((cell_far (p := ⟨gb420, _, none⟩) NB419_420.out _).trans (((cell_far (p := ⟨gb420, _, none⟩) NB419_420.out _).trans (hHeld.2.2.2.2.2.2.2.1)))), ((cell_far (p := ⟨gb420, _, none⟩) NB419_420.out _).trans (((cell_far (p := ⟨gb420, _, none⟩) NB419_420.out _).trans (hHeld.2.2.2.2.2.2.2.2.1)))), ((cell_far (p := ⟨gb420, _, none⟩) NB442_420.out _).trans (((cell_far (p := ⟨gb420, _, none⟩) NB442_420.out _).trans (hHeld.2.2.2.2.2.2.2.2.2.1)))), ((cell_far (p := ⟨gb420, _, none⟩) NB442_420.out _).trans (((cell_far (p := ⟨gb420, _, none⟩) NB442_420.out _).trans (hHeld.2.2.2.2.2.2.2.2.2.2.1)))), ((cell_far (p := ⟨gb420, _, none⟩) NB442_420.out _).trans (((cell_far (p := ⟨gb420, _, none⟩) NB442_420.out _).trans (hHeld.2.2.2.2.2.2.2.2.2.2.2.1)))), ((cell_far (p := ⟨gb420, _, none⟩) NB442_420.out _).trans (((cell_far (p := ⟨gb420, _, none⟩) NB442_420.out _).trans (hHeld.2.2.2.2.2.2.2.2.2.2.2.2.1)))), ((cell_far (p := ⟨gb420, _, none⟩) NB442_420.out _).trans (((cell_far (p := ⟨gb420, _, none⟩) NB442_420.out _).trans (hHeld.2.2.2.2.2.2.2.2.2.2.2.2.2.1)))), ((cell_far (p := ⟨gb420, _, none⟩) NB442_420.out _).trans (((cell_far (p := ⟨gb420, _, none⟩) NB442_420.out _).trans (hHeld.2.2.2.2.2.2.2.2.2.2.2.2.2.2))))⟩ (fun hHeld => ?_)
        clear hK K
        refine pu_ 8 7 HT_ ?_
        refine dn_ HT_ ?_
        try go_wp2
        refine bodyPost_ret (results_ct rfl _ _ gb420 26 #[.slice Ao92 t463.length co92, .int .i64 t466] (0, 0) _ rfl (oP BK420) Tryz.underlying26 rfl (by kernel_rfl)) rfl ?_
        exact ⟨_, oE, by (with_reducible repeat (first | apply Kd.S_alloc | apply Kd.S_drewN | apply Kd.S_drew)); exact Kd.S_mono (Kd.S_far (p := ⟨gb420, 1, none⟩) (Kd.S_far (p := ⟨gb420, 0, none⟩) (Kd.S_types HO465.out BK420.out (by decide)) (fun _ hk => hk.2) (.slice Ao92 t463.length co92)) (fun _ hk => hk.2) (.int .i64 t466)) (fun _ hk => trivial), oB⟩
      ·rw [if_neg c36] at H
       have c36b0 : (t458 == 0) = false := beq_eq_false_iff_ne.mpr c36
       have c36b1 : (t458 != 0) = true := bne_iff_ne.mpr c36
       simp only [Option.some.injEq, Prod.mk.injEq] at H
       obtain ⟨rfl, rfl, rfl⟩ := H
       have hnb95 := NB419_420.out
       have hnc95 := NB420_419.out
       obtain ⟨⟨_, _⟩, _, _⟩ := z2 BK419
       go_wp2_with (first | ((with_reducible refine gate_callee (f := 48) rfl ?_); refine gl_ 27 Tryz.func48 (impl_fileAt.calls kj4 _ _ t421 t424 a1 t429 t430 t431 t432 t435 t438 t441 _ (rcS0 HO_420000) (rnS HO_420000) A31.out) ?_; rintro e w97 ⟨v433, v436, v439, rfl, ho0, ho1, ho2, hb⟩; refine ⟨_, rfl, ?_⟩; have HO434 := Aside0.mk (Kd.R_lower ho0 (below_size oB)); have HO437 := Aside0.mk (Kd.R_lower ho1 (below_size oB)); have HO440 := Aside0.mk (Kd.R_lower ho2 (below_size oB)); replace HO_420000 := tdS3 (olS0 HO_420000 hb) (Kd.R_base ho0) (Kd.R_base ho1) (Kd.R_base ho2); replace BK419 := kb_ BK419 hb; replace BK420 := kb_ BK420 hb; replace HB := Aside0.mk (below_step oB hb); (try clear ho1); (try clear ho2)) | ((with_reducible refine gate_dst (N := 8) rfl ?_); refine bx_ 8 #[.int .i64 0, .int .i64 0, .int .i64 0, .slice none 0 0, .slice none 0 0, .slice none 0 0] 51 ?_; intro gb442 hg w98 hbox hb; have BK442 := Aside0.mk (hbox); have GW442 := gs_ hg; have NB419_442 := nl_ hg BK419; have NB442_419 := nr_ hg BK419; have NB420_442 := nl_ hg BK420; have NB442_420 := nr_ hg BK420; replace HO_420000 := Aside0.mk (Kd.S_below (Kd.S_elderB (nS0 HO_420000) gb442 (Nat.le_of_eq hg.symm)) hb); replace HO434 := kr_ HO434 hb; replace HO437 := kr_ HO437 hb; replace HO440 := kr_ HO440 hb; replace BK419 := kb_ BK419 hb; replace BK420 := kb_ BK420 hb; replace HB := Aside0.mk (below_step oB hb); clear hb hbox hg; have hnb99 := NB442_419.out; have hnc99 := NB419_442.out; have hnb100 := NB442_420.out; have hnc100 := NB420_442.out; obtain ⟨⟨_, _, _, _, _, _⟩, _, _, _, _, _, _⟩ := z6 BK442; obtain ⟨Ao102, co102, eo102⟩ := Kd.R_slice HO434.out; subst eo102; obtain ⟨Ao103, co103, eo103⟩ := Kd.R_slice HO437.out; subst eo103; obtain ⟨Ao104, co104, eo104⟩ := Kd.R_slice HO440.out; subst eo104; obtain ⟨⟨_, _⟩, _, _⟩ := z2 BK419) | ((with_reducible refine gate_callee (f := 57) rfl ?_); refine gl_ 37 Tryz.func57 (impl_spotOf.calls kj4 _ _ t421 t424 a2 t443 t444 t445 t446 t449 t452 t455 t456 _ (rcS2 HO_420000 gb442 (fun _ hk => hk.2)) (rnS HO_420000) A33.out) ?_; rintro e w106 ⟨v447, v450, v453, rfl, ho0, ho1, ho2, hb⟩; refine ⟨_, rfl, ?_⟩; have HO448 := Aside0.mk (Kd.R_lower (Kd.R_new' ho0 (ltR1 HO434 BK442)) (below_size oB)); have HO451 := Aside0.mk (Kd.R_lower (Kd.R_new' ho1 (ltR1 HO437 BK442)) (below_size oB)); have HO454 := Aside0.mk (Kd.R_lower (Kd.R_new' ho2 (ltR1 HO440 BK442)) (below_size oB)); replace HO_420000 := tdS3 (olS2 HO_420000 gb442 (fun _ hk => hk.2) hb) (Kd.R_base ho0) (Kd.R_base ho1) (Kd.R_base ho2); replace HO434 := elR1 HO434 BK442 (Kd.R_base ho0) hb; replace HO437 := elR1 HO437 BK442 (Kd.R_base ho1) hb; replace HO440 := elR1 HO440 BK442 (Kd.R_base ho2) hb; replace BK419 := kb_ BK419 hb; replace BK420 := kb_ BK420 hb; replace BK442 := kp_ #[.int .i64 t429, .int .i64 t430, .int .i64 t431, .slice Ao102 t432.length co102, .slice Ao103 t435.length co103, .slice Ao104 t438.length co104] BK442 hb; replace HB := Aside0.mk (below_step oB hb); (try clear hk); (try clear ho1); (try clear ho2)) | ((with_reducible refine gate_dst (N := 10) rfl ?_); refine bx_ 10 #[.int .i64 0, .int .i64 0, .int .i64 0, .slice none 0 0, .slice none 0 0, .slice none 0 0, .string (⟨#[]⟩ : ByteArray)] 84 ?_; intro gb457 hg w107 hbox hb; have BK457 := Aside0.mk (hbox); have GW457 := gs_ hg; have NB419_457 := nl_ hg BK419; have NB457_419 := nr_ hg BK419; have NB420_457 := nl_ hg BK420; have NB457_420 := nr_ hg BK420; have NB442_457 := nl_ hg BK442; have NB457_442 := nr_ hg BK442; replace HO_420000 := beS0 HO_420000 hb; replace HO434 := kr_ HO434 hb; replace HO437 := kr_ HO437 hb; replace HO440 := kr_ HO440 hb; replace HO448 := kr_ HO448 hb; replace HO451 := kr_ HO451 hb; replace HO454 := kr_ HO454 hb; replace BK419 := kb_ BK419 hb; replace BK420 := kb_ BK420 hb; replace BK442 := kb_ BK442 hb; replace HB := Aside0.mk (below_step oB hb); clear hb hbox hg; have hnb108 := NB457_419.out; have hnc108 := NB419_457.out; have hnb109 := NB457_420.out; have hnc109 := NB420_457.out; have hnb110 := NB457_442.out; have hnc110 := NB442_457.out; obtain ⟨⟨_, _, _, _, _, _, _⟩, _, _, _, _, _, _, _⟩ := z7 BK457; obtain ⟨Ao112, co112, eo112⟩ := Kd.R_slice HO448.out; subst eo112; obtain ⟨Ao113, co113, eo113⟩ := Kd.R_slice HO451.out; subst eo113; obtain ⟨Ao114, co114, eo114⟩ := Kd.R_slice HO454.out; subst eo114) | ((with_reducible refine gate_callee (f := 58) rfl ?_); refine gl_ 50 Tryz.func58 (impl_EntOf.calls kj4 t443 t444 t445 _ _ t446 _ _ t449 _ _ t452 t455 t458 _ (rcR1 HO448 BK457) (ko HO448) (rcR1 HO451 BK457) (ko HO451) (rcR1 HO454 BK457) (ko HO454) A35.out) ?_; rintro e w115 ⟨rfl, hb⟩; refine ⟨_, rfl, ?_⟩; replace HO_420000 := beS1 HO_420000 BK457 hb; replace HO434 := beR1 HO434 BK457 hb; replace HO437 := beR1 HO437 BK457 hb; replace HO440 := beR1 HO440 BK457 hb; replace HO448 := beR1 HO448 BK457 hb; replace HO451 := beR1 HO451 BK457 hb; replace HO454 := beR1 HO454 BK457 hb; replace BK419 := kb_ BK419 hb; replace BK420 := kb_ BK420 hb; replace BK442 := kb_ BK442 hb; replace BK457 := kp_ #[.int .i64 t443, .int .i64 t444, .int .i64 t445, .slice Ao112 t446.length co112, .slice Ao113 t449.length co113, .slice Ao114 t452.length co114, .string t455] BK457 hb; replace HB := Aside0.mk (below_step oB hb); (try clear hk); obtain ⟨⟨_, _⟩, _, _⟩ := z2 BK419; obtain ⟨⟨_, _⟩, _, _⟩ := z2 BK420))
       refine bodyPost_ret (results_ct rfl _ _ gb420 26 #[.slice Ao11 t421.length co11, .int .i64 t424] (0, 0) _ rfl (oP BK420) Tryz.underlying26 rfl (by kernel_rfl)) rfl ?_
       exact ⟨_, oE, by (with_reducible repeat (first | apply Kd.S_alloc | apply Kd.S_drewN | apply Kd.S_drew)); exact Kd.S_mono (Kd.S_far (p := ⟨gb420, 1, none⟩) (Kd.S_far (p := ⟨gb420, 0, none⟩) (Kd.S_types HO_420000.out BK420.out (by decide)) (fun _ hk => hk.2) (.slice Ao11 t421.length co11)) (fun _ hk => hk.2) (.int .i64 t424)) (fun _ hk => trivial), oB⟩
     ·rw [if_neg c34] at H
      have c34b0 : (t456 == 0) = false := beq_eq_false_iff_ne.mpr c34
      have c34b1 : (t456 != 0) = true := bne_iff_ne.mpr c34
      simp only [Option.some.injEq, Prod.mk.injEq] at H
      obtain ⟨rfl, rfl, rfl⟩ := H
      have hnb118 := NB419_420.out
      have hnc118 := NB420_419.out
      obtain ⟨⟨_, _⟩, _, _⟩ := z2 BK419
      go_wp2_with (first | ((with_reducible refine gate_callee (f := 48) rfl ?_); refine gl_ 27 Tryz.func48 (impl_fileAt.calls kj4 _ _ t421 t424 a1 t429 t430 t431 t432 t435 t438 t441 _ (rcS0 HO_420000) (rnS HO_420000) A31.out) ?_; rintro e w120 ⟨v433, v436, v439, rfl, ho0, ho1, ho2, hb⟩; refine ⟨_, rfl, ?_⟩; have HO434 := Aside0.mk (Kd.R_lower ho0 (below_size oB)); have HO437 := Aside0.mk (Kd.R_lower ho1 (below_size oB)); have HO440 := Aside0.mk (Kd.R_lower ho2 (below_size oB)); replace HO_420000 := tdS3 (olS0 HO_420000 hb) (Kd.R_base ho0) (Kd.R_base ho1) (Kd.R_base ho2); replace BK419 := kb_ BK419 hb; replace BK420 := kb_ BK420 hb; replace HB := Aside0.mk (below_step oB hb); (try clear ho1); (try clear ho2)) | ((with_reducible refine gate_dst (N := 8) rfl ?_); refine bx_ 8 #[.int .i64 0, .int .i64 0, .int .i64 0, .slice none 0 0, .slice none 0 0, .slice none 0 0] 51 ?_; intro gb442 hg w121 hbox hb; have BK442 := Aside0.mk (hbox); have GW442 := gs_ hg; have NB419_442 := nl_ hg BK419; have NB442_419 := nr_ hg BK419; have NB420_442 := nl_ hg BK420; have NB442_420 := nr_ hg BK420; replace HO_420000 := Aside0.mk (Kd.S_below (Kd.S_elderB (nS0 HO_420000) gb442 (Nat.le_of_eq hg.symm)) hb); replace HO434 := kr_ HO434 hb; replace HO437 := kr_ HO437 hb; replace HO440 := kr_ HO440 hb; replace BK419 := kb_ BK419 hb; replace BK420 := kb_ BK420 hb; replace HB := Aside0.mk (below_step oB hb); clear hb hbox hg; have hnb122 := NB442_419.out; have hnc122 := NB419_442.out; have hnb123 := NB442_420.out; have hnc123 := NB420_442.out; obtain ⟨⟨_, _, _, _, _, _⟩, _, _, _, _, _, _⟩ := z6 BK442; obtain ⟨Ao125, co125, eo125⟩ := Kd.R_slice HO434.out; subst eo125; obtain ⟨Ao126, co126, eo126⟩ := Kd.R_slice HO437.out; subst eo126; obtain ⟨Ao127, co127, eo127⟩ := Kd.R_slice HO440.out; subst eo127; obtain ⟨⟨_, _⟩, _, _⟩ := z2 BK419) | ((with_reducible refine gate_callee (f := 57) rfl ?_); refine gl_ 37 Tryz.func57 (impl_spotOf.calls kj4 _ _ t421 t424 a2 t443 t444 t445 t446 t449 t452 t455 t456 _ (rcS2 HO_420000 gb442 (fun _ hk => hk.2)) (rnS HO_420000) A33.out) ?_; rintro e w129 ⟨v447, v450, v453, rfl, ho0, ho1, ho2, hb⟩; refine ⟨_, rfl, ?_⟩; have HO448 := Aside0.mk (Kd.R_lower (Kd.R_new' ho0 (ltR1 HO434 BK442)) (below_size oB)); have HO451 := Aside0.mk (Kd.R_lower (Kd.R_new' ho1 (ltR1 HO437 BK442)) (below_size oB)); have HO454 := Aside0.mk (Kd.R_lower (Kd.R_new' ho2 (ltR1 HO440 BK442)) (below_size oB)); replace HO_420000 := tdS3 (olS2 HO_420000 gb442 (fun _ hk => hk.2) hb) (Kd.R_base ho0) (Kd.R_base ho1) (Kd.R_base ho2); replace HO434 := elR1 HO434 BK442 (Kd.R_base ho0) hb; replace HO437 := elR1 HO437 BK442 (Kd.R_base ho1) hb; replace HO440 := elR1 HO440 BK442 (Kd.R_base ho2) hb; replace BK419 := kb_ BK419 hb; replace BK420 := kb_ BK420 hb; replace BK442 := kp_ #[.int .i64 t429, .int .i64 t430, .int .i64 t431, .slice Ao125 t432.length co125, .slice Ao126 t435.length co126, .slice Ao127 t438.length co127] BK442 hb; replace HB := Aside0.mk (below_step oB hb); (try clear hk); (try clear ho1); (try clear ho2)) | ((with_reducible refine gate_dst (N := 10) rfl ?_); refine bx_ 10 #[.int .i64 0, .int .i64 0, .int .i64 0, .slice none 0 0, .slice none 0 0, .slice none 0 0, .string (⟨#[]⟩ : ByteArray)] 84 ?_; intro gb457 hg w130 hbox hb; have BK457 := Aside0.mk (hbox); have GW457 := gs_ hg; have NB419_457 := nl_ hg BK419; have NB457_419 := nr_ hg BK419; have NB420_457 := nl_ hg BK420; have NB457_420 := nr_ hg BK420; have NB442_457 := nl_ hg BK442; have NB457_442 := nr_ hg BK442; replace HO_420000 := beS0 HO_420000 hb; replace HO434 := kr_ HO434 hb; replace HO437 := kr_ HO437 hb; replace HO440 := kr_ HO440 hb; replace HO448 := kr_ HO448 hb; replace HO451 := kr_ HO451 hb; replace HO454 := kr_ HO454 hb; replace BK419 := kb_ BK419 hb; replace BK420 := kb_ BK420 hb; replace BK442 := kb_ BK442 hb; replace HB := Aside0.mk (below_step oB hb); clear hb hbox hg; have hnb131 := NB457_419.out; have hnc131 := NB419_457.out; have hnb132 := NB457_420.out; have hnc132 := NB420_457.out; have hnb133 := NB457_442.out; have hnc133 := NB442_457.out; obtain ⟨⟨_, _, _, _, _, _, _⟩, _, _, _, _, _, _, _⟩ := z7 BK457; obtain ⟨Ao135, co135, eo135⟩ := Kd.R_slice HO448.out; subst eo135; obtain ⟨Ao136, co136, eo136⟩ := Kd.R_slice HO451.out; subst eo136; obtain ⟨Ao137, co137, eo137⟩ := Kd.R_slice HO454.out; subst eo137; obtain ⟨⟨_, _⟩, _, _⟩ := z2 BK419; obtain ⟨⟨_, _⟩, _, _⟩ := z2 BK420))
      refine bodyPost_ret (results_ct rfl _ _ gb420 26 #[.slice Ao11 t421.length co11, .int .i64 t424] (0, 0) _ rfl (oP BK420) Tryz.underlying26 rfl (by kernel_rfl)) rfl ?_
      exact ⟨_, oE, by (with_reducible repeat (first | apply Kd.S_alloc | apply Kd.S_drewN | apply Kd.S_drew)); exact Kd.S_mono (Kd.S_far (p := ⟨gb420, 1, none⟩) (Kd.S_far (p := ⟨gb420, 0, none⟩) (Kd.S_far (p := ⟨gb457, 6, none⟩) (Kd.S_far (p := ⟨gb457, 5, none⟩) (Kd.S_far (p := ⟨gb457, 4, none⟩) (Kd.S_far (p := ⟨gb457, 3, none⟩) (Kd.S_far (p := ⟨gb457, 2, none⟩) (Kd.S_far (p := ⟨gb457, 1, none⟩) (Kd.S_far (p := ⟨gb457, 0, none⟩) (Kd.S_types (Kd.S_types HO_420000.out BK457.out (by decide)) BK420.out (by decide)) (fun _ hk => hk.1.2) (.int .i64 t443)) (fun _ hk => hk.1.2) (.int .i64 t444)) (fun _ hk => hk.1.2) (.int .i64 t445)) (fun _ hk => hk.1.2) (.slice Ao135 t446.length co135)) (fun _ hk => hk.1.2) (.slice Ao136 t449.length co136)) (fun _ hk => hk.1.2) (.slice Ao137 t452.length co137)) (fun _ hk => hk.1.2) (.string t455)) (fun _ hk => hk.2) (.slice Ao11 t421.length co11)) (fun _ hk => hk.2) (.int .i64 t424)) (fun _ hk => trivial), oB⟩
    ·rw [if_neg c32] at H
     have c32b0 : (t441 == 0) = false := beq_eq_false_iff_ne.mpr c32
     have c32b1 : (t441 != 0) = true := bne_iff_ne.mpr c32
     simp only [Option.some.injEq, Prod.mk.injEq] at H
     obtain ⟨rfl, rfl, rfl⟩ := H
     have hnb140 := NB419_420.out
     have hnc140 := NB420_419.out
     obtain ⟨⟨_, _⟩, _, _⟩ := z2 BK419
     go_wp2_with (first | ((with_reducible refine gate_callee (f := 48) rfl ?_); refine gl_ 27 Tryz.func48 (impl_fileAt.calls kj4 _ _ t421 t424 a1 t429 t430 t431 t432 t435 t438 t441 _ (rcS0 HO_420000) (rnS HO_420000) A31.out) ?_; rintro e w142 ⟨v433, v436, v439, rfl, ho0, ho1, ho2, hb⟩; refine ⟨_, rfl, ?_⟩; have HO434 := Aside0.mk (Kd.R_lower ho0 (below_size oB)); have HO437 := Aside0.mk (Kd.R_lower ho1 (below_size oB)); have HO440 := Aside0.mk (Kd.R_lower ho2 (below_size oB)); replace HO_420000 := tdS3 (olS0 HO_420000 hb) (Kd.R_base ho0) (Kd.R_base ho1) (Kd.R_base ho2); replace BK419 := kb_ BK419 hb; replace BK420 := kb_ BK420 hb; replace HB := Aside0.mk (below_step oB hb); (try clear ho1); (try clear ho2)) | ((with_reducible refine gate_dst (N := 8) rfl ?_); refine bx_ 8 #[.int .i64 0, .int .i64 0, .int .i64 0, .slice none 0 0, .slice none 0 0, .slice none 0 0] 51 ?_; intro gb442 hg w143 hbox hb; have BK442 := Aside0.mk (hbox); have GW442 := gs_ hg; have NB419_442 := nl_ hg BK419; have NB442_419 := nr_ hg BK419; have NB420_442 := nl_ hg BK420; have NB442_420 := nr_ hg BK420; replace HO_420000 := Aside0.mk (Kd.S_below (Kd.S_elderB (nS0 HO_420000) gb442 (Nat.le_of_eq hg.symm)) hb); replace HO434 := kr_ HO434 hb; replace HO437 := kr_ HO437 hb; replace HO440 := kr_ HO440 hb; replace BK419 := kb_ BK419 hb; replace BK420 := kb_ BK420 hb; replace HB := Aside0.mk (below_step oB hb); clear hb hbox hg; have hnb144 := NB442_419.out; have hnc144 := NB419_442.out; have hnb145 := NB442_420.out; have hnc145 := NB420_442.out; obtain ⟨⟨_, _, _, _, _, _⟩, _, _, _, _, _, _⟩ := z6 BK442; obtain ⟨Ao147, co147, eo147⟩ := Kd.R_slice HO434.out; subst eo147; obtain ⟨Ao148, co148, eo148⟩ := Kd.R_slice HO437.out; subst eo148; obtain ⟨Ao149, co149, eo149⟩ := Kd.R_slice HO440.out; subst eo149; obtain ⟨⟨_, _⟩, _, _⟩ := z2 BK419; obtain ⟨⟨_, _⟩, _, _⟩ := z2 BK420))
     refine bodyPost_ret (results_ct rfl _ _ gb420 26 #[.slice Ao11 t421.length co11, .int .i64 t424] (0, 0) _ rfl (oP BK420) Tryz.underlying26 rfl (by kernel_rfl)) rfl ?_
     exact ⟨_, oE, by (with_reducible repeat (first | apply Kd.S_alloc | apply Kd.S_drewN | apply Kd.S_drew)); exact Kd.S_mono (Kd.S_far (p := ⟨gb420, 1, none⟩) (Kd.S_far (p := ⟨gb420, 0, none⟩) (Kd.S_far (p := ⟨gb442, 5, none⟩) (Kd.S_far (p := ⟨gb442, 4, none⟩) (Kd.S_far (p := ⟨gb442, 3, none⟩) (Kd.S_far (p := ⟨gb442, 2, none⟩) (Kd.S_far (p := ⟨gb442, 1, none⟩) (Kd.S_far (p := ⟨gb442, 0, none⟩) (Kd.S_types (Kd.S_mono HO_420000.out (fun k_ hk => (⟨hk, hk.2⟩ : _ ∧ k_ ≠ gb442))) BK420.out (by decide)) (fun _ hk => hk.1.2) (.int .i64 t429)) (fun _ hk => hk.1.2) (.int .i64 t430)) (fun _ hk => hk.1.2) (.int .i64 t431)) (fun _ hk => hk.1.2) (.slice Ao147 t432.length co147)) (fun _ hk => hk.1.2) (.slice Ao148 t435.length co148)) (fun _ hk => hk.1.2) (.slice Ao149 t438.length co149)) (fun _ hk => hk.2) (.slice Ao11 t421.length co11)) (fun _ hk => hk.2) (.int .i64 t424)) (fun _ hk => trivial), oB⟩

/-! ### impl_Unlink: function 29 -/
def impl_Unlink.j0 : Nat → ByteArray → Bool → List (S51) → Int → Option ((List (S51)) × Int × Int)
 | 0, _, _, _, _ => none
 | k + 1, x1, x20, x468000, x468001 => if x20 = true then (some (x468000, x468001, 1)) else ((impl_fileAt.f k x468000 x468001 x1).bind fun bt477 => (if bt477.2.2.2.2.2.2 = 0 then ((impl_spotOf.f k x468000 x468001 x1).bind fun bt491 => ((impl_spot_leave.f k bt491.1 bt491.2.1 bt491.2.2.1 bt491.2.2.2.1 bt491.2.2.2.2.1 bt491.2.2.2.2.2.1 bt491.2.2.2.2.2.2.1 x468000 x468001).bind fun bt506 => (if (wrap64 (bt477.2.2.1 - 1)) = 0 then ((impl_DropInode.f k bt506.1 bt506.2 bt477.1).bind fun bt510 => (some (bt510.1, bt510.2, 0))) else ((impl_SetInode.f k bt506.1 bt506.2 bt477.1 bt477.2.1 (wrap64 (bt477.2.2.1 - 1)) bt477.2.2.2.1 bt477.2.2.2.2.1 bt477.2.2.2.2.2.1).bind fun bt514 => (some (bt514.1, bt514.2, 0)))))) else (some (x468000, x468001, bt477.2.2.2.2.2.2))))
def impl_Unlink.f (k : Nat) (l0_0 : List (S51)) (a0_1 : Int) (a1 : ByteArray) : Option ((List (S51)) × Int × Int) := (impl_copyTab.f k l0_0 a0_1).bind fun bt469 => ((impl_ready.f k bt469.1 bt469.2 (([a1] : List ByteArray))).bind fun t476 => (if t476 = true then (impl_Unlink.j0 k a1 (a1.toList == ([47] : List UInt8)) bt469.1 bt469.2) else (impl_Unlink.j0 k a1 true bt469.1 bt469.2)))
set_option maxHeartbeats 8000000 in
set_option maxRecDepth 100000 in
theorem impl_Unlink.calls (k : Nat) (A0_0 : Option Addr) (c0_0 : Nat) (l0_0 : List (S51)) (a0_1 : Int) (a1 : ByteArray) (r1 : List (S51)) (r2 : Int) (r3 : Int) (w : World) (hr0_0 : Kd.C k51 w A0_0 l0_0.length l0_0) (hc0_0 : l0_0.length ≤ c0_0) (h : impl_Unlink.f k l0_0 a0_1 a1 = some (r1, r2, r3)) (hG : GOk w := by exact gk_ oB (by first | (with_reducible assumption) | assumption)) :
  Calls Tryz.prog 29 #[.agg #[.slice A0_0 l0_0.length c0_0, .int .i64 a0_1], .string a1] w fun e w' => ∃ v0_ : Value, e = .returned (.tuple #[.agg #[v0_, .int .i64 r2], .int .i64 r3]) ∧ Kd.S k51 51 w' w.heap.size (fun _ => True) v0_ r1 ∧ Below w.heap.size w w' := by
 have HG := Aside0.mk hG
 clear hG
 have hu26 := Tryz.underlying26
 have hu51 := Tryz.underlying51
 have hu84 := Tryz.underlying84
 have HR0_0 := Aside0.mk hr0_0
 have HC0_0 := Aside0.mk hc0_0
 clear hr0_0 hc0_0
 have HB := Aside0.mk (Below.refl w.heap.size w)
 unfold impl_Unlink.f at h
 have H := h
 clear h
 replace H := bA H
 obtain ⟨⟨t469, t472⟩, A3, H⟩ := H
 try dsimp only at H
 have HC4 := Aside0.mk H
 clear H
 go_enter Tryz.func29, Tryz.ntmps29
 go_upto_region 2 with (first | ((with_reducible refine gate_dst (N := 2) rfl ?_); refine bx_ 2 #[.slice A0_0 l0_0.length c0_0, .int .i64 a0_1] 26 ?_; intro gb467 hg w5 hbox hb; have BK467 := Aside0.mk (hbox); have GW467 := gs_ hg; replace HB := Aside0.mk (below_step oB hb); clear hb hbox hg) | ((with_reducible refine gate_dst (N := 4) rfl ?_); refine bx_ 4 #[.slice none 0 0, .int .i64 0] 26 ?_; intro gb468 hg w6 hbox hb; have BK468 := Aside0.mk (hbox); have GW468 := gs_ hg; have NB467_468 := nl_ hg BK467; have NB468_467 := nr_ hg BK467; replace BK467 := kb_ BK467 hb; replace HB := Aside0.mk (below_step oB hb); clear hb hbox hg; have hnb7 := NB467_468.out; have hnc7 := NB468_467.out; obtain ⟨⟨_, _⟩, _, _⟩ := z2 BK467) | ((with_reducible refine gate_callee (f := 45) rfl ?_); refine gl_ 11 Tryz.func45 (impl_copyTab.calls k _ _ l0_0 a0_1 t469 t472 _ (kC HR0_0) HC0_0.out A3.out) ?_; rintro e w9 ⟨v470, rfl, ho0, hb⟩; refine ⟨_, rfl, ?_⟩; have HO471 := Aside0.mk (Kd.S_lower ho0 (below_size oB)); replace BK467 := kb_ BK467 hb; replace BK468 := kb_ BK468 hb; replace HB := Aside0.mk (below_step oB hb); obtain ⟨Ao10, co10, eo10⟩ := Kd.S_slice HO471.out; subst eo10; obtain ⟨⟨_, _⟩, _, _⟩ := z2 BK467))
 (try simp only [Act.put, List.setIfInBounds_toArray, List.set_cons_zero, List.set_cons_succ])
 go_cut [20] (fun v20 wc => ∃ (kq : Nat) (x20_3 : Bool), v20 = .bool x20_3 ∧ Aside0 (impl_Unlink.j0 kq a1 x20_3 t469 t472 = some (r1, r2, r3)) ∧ Aside0 (kq ≤ k) ∧ Aside0 (Kd.S k51 51 wc w.heap.size (fun _ => True) (.slice Ao10 t469.length co10) t469) ∧ Aside0 (wc.heap[gb467]? = some (.cells #[(.slice Ao10 t469.length co10), .int .i64 t472] 26 (0, 0))) ∧ Aside0 (wc.heap[gb468]? = some (.cells #[(.slice none 0 0), .int .i64 0] 26 (0, 0))) ∧ Aside0 (Below w.heap.size w wc))
 case first =>
  have H := HC4.out
  clear HC4
  obtain ⟨y473, hy473⟩ : ∃ y_ : List ByteArray, y_ = (([a1] : List ByteArray)) := ⟨_, rfl⟩
  replace H : ((impl_ready.f k t469 t472 y473).bind fun t476 => (if t476 = true then (impl_Unlink.j0 k a1 (a1.toList == ([47] : List UInt8)) t469 t472) else (impl_Unlink.j0 k a1 true t469 t472))) = some (r1, r2, r3) := by first | (rw [hy473]; with_reducible exact H) | (have H2_ := (Option.bind_some _ _).symm.trans H; rw [hy473]; with_reducible exact H2_) | (have H2_ := (Option.bind_some _ _).symm.trans H; with_reducible exact H2_) | with_reducible exact H | (rw [hy473]; exact H) | exact H
  have Ny473 := Aside0.mk hy473
  clear hy473
  replace H := bA H
  obtain ⟨t476, A12, H⟩ := H
  try dsimp only at H
  replace H := itB H
  rcases H with ⟨rfl, H⟩ | ⟨rfl, H⟩
  ·have H' := Aside0.mk H
   clear H
   have hnb14 := NB467_468.out
   have hnc14 := NB468_467.out
   obtain ⟨⟨_, _⟩, _, _⟩ := z2 BK467
   go_wp2_with (first | ((with_reducible refine gate_dst (N := 14) rfl ?_); refine Kd.R_lit Kd.string _ 9 ?hg (N := 14) ?hd (xs := ([a1] : List ByteArray)) (inner := [.string a1]) (ok := fun _ => True) (okp := fun _ => True) ?hr ?hp (fun _ hk => hk) trivial (Below.refl _ _) (Nat.le_refl _) (by simp) ?_; (case hd => rfl); (case hg => rfl); (case hr => first | (go_simp; done) | (go_simp; rfl)); (case hp => exact (Reps.one (show Kd.M Kd.string _ _ _ a1 [.string a1] from rfl) (Reps.none _ _))); intro v474 w16 ho17 hb hg_ hnew_; clear hg_ hnew_; (first | rw [← Ny473.out] at ho17 | (simp only [Int.reduceToNat] at ho17; rw [← Ny473.out] at ho17)); have HO475 := Aside0.mk (Kd.R_lower ho17 (below_size oB)); replace HO471 := beS1 HO471 BK467 hb; replace BK467 := kp_ #[.slice Ao10 t469.length co10, .int .i64 t472] BK467 hb; replace BK468 := kb_ BK468 hb; replace HB := Aside0.mk (below_step oB hb); clear hb ho17; obtain ⟨Ao18, co18, eo18⟩ := Kd.R_slice HO475.out; subst eo18) | ((with_reducible refine gate_callee (f := 46) rfl ?_); refine gl_ 15 Tryz.func46 (impl_ready.calls k _ _ t469 t472 _ _ y473 true _ (rcS0 HO471) (rnS HO471) (kO HO475) (ko HO475) A12.out) ?_; rintro e w19 ⟨rfl, hb⟩; refine ⟨_, rfl, ?_⟩; replace HO471 := beS0 HO471 hb; replace HO475 := kr_ HO475 hb; replace BK467 := kb_ BK467 hb; replace BK468 := kb_ BK468 hb; replace HB := Aside0.mk (below_step oB hb)))
   go_meet
   case rel => exact ⟨_, ((a1.toList == ([47] : List UInt8))), oS, H', ⟨by first | omega | exact Nat.le_refl _⟩, ⟨by (with_reducible repeat (first | apply Kd.S_alloc | apply Kd.S_drewN | apply Kd.S_drew)); exact HO471.out⟩, ⟨oF BK467⟩, ⟨oF BK468⟩, ⟨oB⟩⟩
  ·have H' := Aside0.mk H
   clear H
   have hnb20 := NB467_468.out
   have hnc20 := NB468_467.out
   obtain ⟨⟨_, _⟩, _, _⟩ := z2 BK467
   go_wp2_with (first | ((with_reducible refine gate_dst (N := 14) rfl ?_); refine Kd.R_lit Kd.string _ 9 ?hg (N := 14) ?hd (xs := ([a1] : List ByteArray)) (inner := [.string a1]) (ok := fun _ => True) (okp := fun _ => True) ?hr ?hp (fun _ hk => hk) trivial (Below.refl _ _) (Nat.le_refl _) (by simp) ?_; (case hd => rfl); (case hg => rfl); (case hr => first | (go_simp; done) | (go_simp; rfl)); (case hp => exact (Reps.one (show Kd.M Kd.string _ _ _ a1 [.string a1] from rfl) (Reps.none _ _))); intro v474 w22 ho23 hb hg_ hnew_; clear hg_ hnew_; (first | rw [← Ny473.out] at ho23 | (simp only [Int.reduceToNat] at ho23; rw [← Ny473.out] at ho23)); have HO475 := Aside0.mk (Kd.R_lower ho23 (below_size oB)); replace HO471 := beS1 HO471 BK467 hb; replace BK467 := kp_ #[.slice Ao10 t469.length co10, .int .i64 t472] BK467 hb; replace BK468 := kb_ BK468 hb; replace HB := Aside0.mk (below_step oB hb); clear hb ho23; obtain ⟨Ao24, co24, eo24⟩ := Kd.R_slice HO475.out; subst eo24) | ((with_reducible refine gate_callee (f := 46) rfl ?_); refine gl_ 15 Tryz.func46 (impl_ready.calls k _ _ t469 t472 _ _ y473 false _ (rcS0 HO471) (rnS HO471) (kO HO475) (ko HO475) A12.out) ?_; rintro e w25 ⟨rfl, hb⟩; refine ⟨_, rfl, ?_⟩; replace HO471 := beS0 HO471 hb; replace HO475 := kr_ HO475 hb; replace BK467 := kb_ BK467 hb; replace BK468 := kb_ BK468 hb; replace HB := Aside0.mk (below_step oB hb)))
   go_meet
   case rel => exact ⟨_, (true), oS, H', ⟨by first | omega | exact Nat.le_refl _⟩, ⟨by (with_reducible repeat (first | apply Kd.S_alloc | apply Kd.S_drewN | apply Kd.S_drew)); exact HO471.out⟩, ⟨oF BK467⟩, ⟨oF BK468⟩, ⟨oB⟩⟩
 case rest =>
  clear HC4
  obtain ⟨kq, x20_3, rfl, HA, HJ3, HO_468000, BK467, BK468, HB⟩ := hcut
  cases kq with
  | zero => exact absurd HA.out (by simp [impl_Unlink.j0])
  | succ kj3 =>
   have H := HA.out
   clear HA
   simp only [impl_Unlink.j0] at H
   replace H := itB H
   rcases H with ⟨rfl, H⟩ | ⟨rfl, H⟩
   ·simp only [Option.some.injEq, Prod.mk.injEq] at H
    obtain ⟨rfl, rfl, rfl⟩ := H
    have hnb27 := NB467_468.out
    have hnc27 := NB468_467.out
    obtain ⟨⟨_, _⟩, _, _⟩ := z2 BK467
    obtain ⟨⟨_, _⟩, _, _⟩ := z2 BK468
    go_wp2
    refine bodyPost_ret (results_ct rfl _ _ gb468 26 #[.slice Ao10 t469.length co10, .int .i64 t472] (0, 0) _ rfl (oP BK468) Tryz.underlying26 rfl (by kernel_rfl)) rfl ?_
    exact ⟨_, oE, by (with_reducible repeat (first | apply Kd.S_alloc | apply Kd.S_drewN | apply Kd.S_drew)); exact Kd.S_mono (Kd.S_far (p := ⟨gb468, 1, none⟩) (Kd.S_far (p := ⟨gb468, 0, none⟩) (Kd.S_types HO_468000.out BK468.out (by decide)) (fun _ hk => hk.2) (.slice Ao10 t469.length co10)) (fun _ hk => hk.2) (.int .i64 t472)) (fun _ hk => trivial), oB⟩
   ·replace H := bA H
    obtain ⟨⟨t477, t478, t479, t480, t483, t486, t489⟩, A30, H⟩ := H
    try dsimp only at H
    by_cases c31 : t489 = 0
    ·rw [if_pos c31] at H
     have c31b0 : (t489 == 0) = true := beq_iff_eq.mpr c31
     have c31b1 : (t489 != 0) = false := bne_eq_false_iff_eq.mpr c31
     clear c31
     replace H := bA H
     obtain ⟨⟨t491, t492, t493, t494, t497, t500, t503, t504⟩, A32, H⟩ := H
     try dsimp only at H
     replace H := bA H
     obtain ⟨⟨t506, t509⟩, A33, H⟩ := H
     try dsimp only at H
     by_cases c34 : (wrap64 (t479 - 1)) = 0
     ·rw [if_pos c34] at H
      have c34b0 : ((wrap64 (t479 - 1)) == 0) = true := beq_iff_eq.mpr c34
      have c34b1 : ((wrap64 (t479 - 1)) != 0) = false := bne_eq_false_iff_eq.mpr c34
      clear c34
      replace H := bA H
      obtain ⟨⟨t510, t513⟩, A35, H⟩ := H
      try dsimp only at H
      simp only [Option.some.injEq, Prod.mk.injEq] at H
      obtain ⟨rfl, rfl, rfl⟩ := H
      have hnb36 := NB467_468.out
      have hnc36 := NB468_467.out
      obtain ⟨⟨_, _⟩, _, _⟩ := z2 BK467
      go_wp2_with (first | ((with_reducible refine gate_callee (f := 48) rfl ?_); refine gl_ 25 Tryz.func48 (impl_fileAt.calls kj3 _ _ t469 t472 a1 t477 t478 t479 t480 t483 t486 t489 _ (rcS0 HO_468000) (rnS HO_468000) A30.out) ?_; rintro e w38 ⟨v481, v484, v487, rfl, ho0, ho1, ho2, hb⟩; refine ⟨_, rfl, ?_⟩; have HO482 := Aside0.mk (Kd.R_lower ho0 (below_size oB)); have HO485 := Aside0.mk (Kd.R_lower ho1 (below_size oB)); have HO488 := Aside0.mk (Kd.R_lower ho2 (below_size oB)); replace HO_468000 := tdS3 (olS0 HO_468000 hb) (Kd.R_base ho0) (Kd.R_base ho1) (Kd.R_base ho2); replace BK467 := kb_ BK467 hb; replace BK468 := kb_ BK468 hb; replace HB := Aside0.mk (below_step oB hb); (try clear ho1); (try clear ho2)) | ((with_reducible refine gate_dst (N := 6) rfl ?_); refine bx_ 6 #[.int .i64 0, .int .i64 0, .int .i64 0, .slice none 0 0, .slice none 0 0, .slice none 0 0] 51 ?_; intro gb490 hg w39 hbox hb; have BK490 := Aside0.mk (hbox); have GW490 := gs_ hg; have NB467_490 := nl_ hg BK467; have NB490_467 := nr_ hg BK467; have NB468_490 := nl_ hg BK468; have NB490_468 := nr_ hg BK468; replace HO_468000 := Aside0.mk (Kd.S_below (Kd.S_elderB (nS0 HO_468000) gb490 (Nat.le_of_eq hg.symm)) hb); replace HO482 := kr_ HO482 hb; replace HO485 := kr_ HO485 hb; replace HO488 := kr_ HO488 hb; replace BK467 := kb_ BK467 hb; replace BK468 := kb_ BK468 hb; replace HB := Aside0.mk (below_step oB hb); clear hb hbox hg; have hnb40 := NB490_467.out; have hnc40 := NB467_490.out; have hnb41 := NB490_468.out; have hnc41 := NB468_490.out; obtain ⟨⟨_, _, _, _, _, _⟩, _, _, _, _, _, _⟩ := z6 BK490; obtain ⟨Ao43, co43, eo43⟩ := Kd.R_slice HO482.out; subst eo43; obtain ⟨Ao44, co44, eo44⟩ := Kd.R_slice HO485.out; subst eo44; obtain ⟨Ao45, co45, eo45⟩ := Kd.R_slice HO488.out; subst eo45; obtain ⟨⟨_, _⟩, _, _⟩ := z2 BK467) | ((with_reducible refine gate_callee (f := 57) rfl ?_); refine gl_ 35 Tryz.func57 (impl_spotOf.calls kj3 _ _ t469 t472 a1 t491 t492 t493 t494 t497 t500 t503 t504 _ (rcS2 HO_468000 gb490 (fun _ hk => hk.2)) (rnS HO_468000) A32.out) ?_; rintro e w47 ⟨v495, v498, v501, rfl, ho0, ho1, ho2, hb⟩; refine ⟨_, rfl, ?_⟩; have HO496 := Aside0.mk (Kd.R_lower (Kd.R_new' ho0 (ltR1 HO482 BK490)) (below_size oB)); have HO499 := Aside0.mk (Kd.R_lower (Kd.R_new' ho1 (ltR1 HO485 BK490)) (below_size oB)); have HO502 := Aside0.mk (Kd.R_lower (Kd.R_new' ho2 (ltR1 HO488 BK490)) (below_size oB)); replace HO_468000 := tdS3 (olS2 HO_468000 gb490 (fun _ hk => hk.2) hb) (Kd.R_base ho0) (Kd.R_base ho1) (Kd.R_base ho2); replace HO482 := elR1 HO482 BK490 (Kd.R_base ho0) hb; replace HO485 := elR1 HO485 BK490 (Kd.R_base ho1) hb; replace HO488 := elR1 HO488 BK490 (Kd.R_base ho2) hb; replace BK467 := kb_ BK467 hb; replace BK468 := kb_ BK468 hb; replace BK490 := kp_ #[.int .i64 t477, .int .i64 t478, .int .i64 t479, .slice Ao43 t480.length co43, .slice Ao44 t483.length co44, .slice Ao45 t486.length co45] BK490 hb; replace HB := Aside0.mk (below_step oB hb); (try clear hk); (try clear ho1); (try clear ho2)) | ((with_reducible refine gate_dst (N := 8) rfl ?_); refine bx_ 8 #[.int .i64 0, .int .i64 0, .int .i64 0, .slice none 0 0, .slice none 0 0, .slice none 0 0, .string (⟨#[]⟩ : ByteArray)] 84 ?_; intro gb505 hg w48 hbox hb; have BK505 := Aside0.mk (hbox); have GW505 := gs_ hg; have NB467_505 := nl_ hg BK467; have NB505_467 := nr_ hg BK467; have NB468_505 := nl_ hg BK468; have NB505_468 := nr_ hg BK468; have NB490_505 := nl_ hg BK490; have NB505_490 := nr_ hg BK490; replace HO_468000 := beS0 HO_468000 hb; replace HO482 := kr_ HO482 hb; replace HO485 := kr_ HO485 hb; replace HO488 := kr_ HO488 hb; replace HO496 := kr_ HO496 hb; replace HO499 := kr_ HO499 hb; replace HO502 := kr_ HO502 hb; replace BK467 := kb_ BK467 hb; replace BK468 := kb_ BK468 hb; replace BK490 := kb_ BK490 hb; replace HB := Aside0.mk (below_step oB hb); clear hb hbox hg; have hnb49 := NB505_467.out; have hnc49 := NB467_505.out; have hnb50 := NB505_468.out; have hnc50 := NB468_505.out; have hnb51 := NB505_490.out; have hnc51 := NB490_505.out; obtain ⟨⟨_, _, _, _, _, _, _⟩, _, _, _, _, _, _, _⟩ := z7 BK505; obtain ⟨Ao53, co53, eo53⟩ := Kd.R_slice HO496.out; subst eo53; obtain ⟨Ao54, co54, eo54⟩ := Kd.R_slice HO499.out; subst eo54; obtain ⟨Ao55, co55, eo55⟩ := Kd.R_slice HO502.out; subst eo55; obtain ⟨⟨_, _⟩, _, _⟩ := z2 BK467) | ((with_reducible refine gate_callee (f := 60) rfl ?_); refine gl_ 40 Tryz.func60 (impl_spot_leave.calls kj3 t491 t492 t493 _ _ t494 _ _ t497 _ _ t500 t503 _ _ t469 t472 t506 t509 _ (rcR1 HO496 BK505) (ko HO496) (rcR1 HO499 BK505) (ko HO499) (rcR1 HO502 BK505) (ko HO502) (rcS1 HO_468000 BK505) (rnS HO_468000) A33.out) ?_; rintro e w57 ⟨v507, rfl, ho0, hb⟩; refine ⟨_, rfl, ?_⟩; have HO508 := Aside0.mk (Kd.S_lower (Kd.S_newB (Kd.S_new' (Kd.S_new' (Kd.S_new' (Kd.S_new' (Kd.S_new' (Kd.S_new' (Kd.S_new' ho0 (ltS1 HO_468000 BK505)) (ltR1 HO482 BK505)) (ltR1 HO485 BK505)) (ltR1 HO488 BK505)) (ltR1 HO496 BK505)) (ltR1 HO499 BK505)) (ltR1 HO502 BK505)) (g := gb490) (o := .cells #[.int .i64 t477, .int .i64 t478, .int .i64 t479, .slice Ao43 t480.length co43, .slice Ao44 t483.length co44, .slice Ao45 t486.length co45] 51 (0, 0)) (oF BK490)) (below_size oB)); replace HO_468000 := elS1 HO_468000 BK505 (Kd.S_base ho0) hb; replace HO482 := beR1 HO482 BK505 hb; replace HO485 := beR1 HO485 BK505 hb; replace HO488 := beR1 HO488 BK505 hb; replace HO496 := beR1 HO496 BK505 hb; replace HO499 := beR1 HO499 BK505 hb; replace HO502 := beR1 HO502 BK505 hb; replace BK467 := kb_ BK467 hb; replace BK468 := kb_ BK468 hb; replace BK490 := kb_ BK490 hb; replace BK505 := kp_ #[.int .i64 t491, .int .i64 t492, .int .i64 t493, .slice Ao53 t494.length co53, .slice Ao54 t497.length co54, .slice Ao55 t500.length co55, .string t503] BK505 hb; replace HB := Aside0.mk (below_step oB hb); (try clear hk); obtain ⟨Ao58, co58, eo58⟩ := Kd.S_slice HO508.out; subst eo58; obtain ⟨⟨_, _⟩, _, _⟩ := z2 BK467; obtain ⟨⟨_, _, _, _, _, _⟩, _, _, _, _, _, _⟩ := z6 BK490) | ((with_reducible refine gate_callee (f := 61) rfl ?_); refine gl_ 51 Tryz.func61 (impl_DropInode.calls kj3 _ _ t506 t509 t477 t510 t513 _ (rcS4 HO508 BK467 gb490 (fun _ hk => hk.1.2)) (rnS HO508) A35.out) ?_; rintro e w61 ⟨v511, rfl, ho0, hb⟩; refine ⟨_, rfl, ?_⟩; have HO512 := Aside0.mk (Kd.S_lower (Kd.S_newB (Kd.S_new' (Kd.S_new' (Kd.S_new' (Kd.S_new' (Kd.S_new' (Kd.S_new' (Kd.S_new' (Kd.S_new' ho0 (ltS4 HO_468000 BK467 gb490 (fun _ hk => hk.1.1.1.1.1.2))) (ltR3 HO482 BK467 BK490)) (ltR3 HO485 BK467 BK490)) (ltR3 HO488 BK467 BK490)) (ltR3 HO496 BK467 BK490)) (ltR3 HO499 BK467 BK490)) (ltR3 HO502 BK467 BK490)) (ltS4 HO508 BK467 gb490 (fun _ hk => hk.1.2))) (g := gb490) (o := .cells #[.int .i64 t477, .int .i64 t478, .int .i64 (wrap64 (t479 - 1)), .slice Ao43 t480.length co43, .slice Ao44 t483.length co44, .slice Ao45 t486.length co45] 51 (0, 0)) (oP BK490)) (below_size oB)); replace HO_468000 := elS4 HO_468000 BK467 gb490 (fun _ hk => hk.1.1.1.1.1.2) (Kd.S_base ho0) hb; replace HO482 := beR3 HO482 BK467 BK490 hb; replace HO485 := beR3 HO485 BK467 BK490 hb; replace HO488 := beR3 HO488 BK467 BK490 hb; replace HO496 := beR3 HO496 BK467 BK490 hb; replace HO499 := beR3 HO499 BK467 BK490 hb; replace HO502 := beR3 HO502 BK467 BK490 hb; replace HO508 := elS4 HO508 BK467 gb490 (fun _ hk => hk.1.2) (Kd.S_base ho0) hb; replace BK467 := kp_ #[.slice Ao58 t506.length co58, .int .i64 t509] BK467 hb; replace BK468 := kb_ BK468 hb; replace BK490 := kp_ #[.int .i64 t477, .int .i64 t478, .int .i64 (wrap64 (t479 - 1)), .slice Ao43 t480.length co43, .slice Ao44 t483.length co44, .slice Ao45 t486.length co45] BK490 hb; replace BK505 := kb_ BK505 hb; replace HB := Aside0.mk (below_step oB hb); (try clear hk); obtain ⟨Ao62, co62, eo62⟩ := Kd.S_slice HO512.out; subst eo62; obtain ⟨⟨_, _⟩, _, _⟩ := z2 BK468))
      refine bodyPost_ret (results_ct rfl _ _ gb468 26 #[.slice Ao62 t510.length co62, .int .i64 t513] (0, 0) _ rfl (oP BK468) Tryz.underlying26 rfl (by kernel_rfl)) rfl ?_
      exact ⟨_, oE, by (with_reducible repeat (first | apply Kd.S_alloc | apply Kd.S_drewN | apply Kd.S_drew)); exact Kd.S_mono (Kd.S_far (p := ⟨gb468, 1, none⟩) (Kd.S_far (p := ⟨gb468, 0, none⟩) (Kd.S_types HO512.out BK468.out (by decide)) (fun _ hk => hk.2) (.slice Ao62 t510.length co62)) (fun _ hk => hk.2) (.int .i64 t513)) (fun _ hk => trivial), oB⟩
     ·rw [if_neg c34] at H
      have c34b0 : ((wrap64 (t479 - 1)) == 0) = false := beq_eq_false_iff_ne.mpr c34
      have c34b1 : ((wrap64 (t479 - 1)) != 0) = true := bne_iff_ne.mpr c34
      replace H := bA H
      obtain ⟨⟨t514, t517⟩, A64, H⟩ := H
      try dsimp only at H
      simp only [Option.some.injEq, Prod.mk.injEq] at H
      obtain ⟨rfl, rfl, rfl⟩ := H
      have hnb65 := NB467_468.out
      have hnc65 := NB468_467.out
      obtain ⟨⟨_, _⟩, _, _⟩ := z2 BK467
      go_wp2_with (first | ((with_reducible refine gate_callee (f := 48) rfl ?_); refine gl_ 25 Tryz.func48 (impl_fileAt.calls kj3 _ _ t469 t472 a1 t477 t478 t479 t480 t483 t486 t489 _ (rcS0 HO_468000) (rnS HO_468000) A30.out) ?_; rintro e w67 ⟨v481, v484, v487, rfl, ho0, ho1, ho2, hb⟩; refine ⟨_, rfl, ?_⟩; have HO482 := Aside0.mk (Kd.R_lower ho0 (below_size oB)); have HO485 := Aside0.mk (Kd.R_lower ho1 (below_size oB)); have HO488 := Aside0.mk (Kd.R_lower ho2 (below_size oB)); replace HO_468000 := tdS3 (olS0 HO_468000 hb) (Kd.R_base ho0) (Kd.R_base ho1) (Kd.R_base ho2); replace BK467 := kb_ BK467 hb; replace BK468 := kb_ BK468 hb; replace HB := Aside0.mk (below_step oB hb); (try clear ho1); (try clear ho2)) | ((with_reducible refine gate_dst (N := 6) rfl ?_); refine bx_ 6 #[.int .i64 0, .int .i64 0, .int .i64 0, .slice none 0 0, .slice none 0 0, .slice none 0 0] 51 ?_; intro gb490 hg w68 hbox hb; have BK490 := Aside0.mk (hbox); have GW490 := gs_ hg; have NB467_490 := nl_ hg BK467; have NB490_467 := nr_ hg BK467; have NB468_490 := nl_ hg BK468; have NB490_468 := nr_ hg BK468; replace HO_468000 := Aside0.mk (Kd.S_below (Kd.S_elderB (nS0 HO_468000) gb490 (Nat.le_of_eq hg.symm)) hb); replace HO482 := kr_ HO482 hb; replace HO485 := kr_ HO485 hb; replace HO488 := kr_ HO488 hb; replace BK467 := kb_ BK467 hb; replace BK468 := kb_ BK468 hb; replace HB := Aside0.mk (below_step oB hb); clear hb hbox hg; have hnb69 := NB490_467.out; have hnc69 := NB467_490.out; have hnb70 := NB490_468.out; have hnc70 := NB468_490.out; obtain ⟨⟨_, _, _, _, _, _⟩, _, _, _, _, _, _⟩ := z6 BK490; obtain ⟨Ao72, co72, eo72⟩ := Kd.R_slice HO482.out; subst eo72; obtain ⟨Ao73, co73, eo73⟩ := Kd.R_slice HO485.out; subst eo73; obtain ⟨Ao74, co74, eo74⟩ := Kd.R_slice HO488.out; subst eo74; obtain ⟨⟨_, _⟩, _, _⟩ := z2 BK467) | ((with_reducible refine gate_callee (f := 57) rfl ?_); refine gl_ 35 Tryz.func57 (impl_spotOf.calls kj3 _ _ t469 t472 a1 t491 t492 t493 t494 t497 t500 t503 t504 _ (rcS2 HO_468000 gb490 (fun _ hk => hk.2)) (rnS HO_468000) A32.out) ?_; rintro e w76 ⟨v495, v498, v501, rfl, ho0, ho1, ho2, hb⟩; refine ⟨_, rfl, ?_⟩; have HO496 := Aside0.mk (Kd.R_lower (Kd.R_new' ho0 (ltR1 HO482 BK490)) (below_size oB)); have HO499 := Aside0.mk (Kd.R_lower (Kd.R_new' ho1 (ltR1 HO485 BK490)) (below_size oB)); have HO502 := Aside0.mk (Kd.R_lower (Kd.R_new' ho2 (ltR1 HO488 BK490)) (below_size oB)); replace HO_468000 := tdS3 (olS2 HO_468000 gb490 (fun _ hk => hk.2) hb) (Kd.R_base ho0) (Kd.R_base ho1) (Kd.R_base ho2); replace HO482 := elR1 HO482 BK490 (Kd.R_base ho0) hb; replace HO485 := elR1 HO485 BK490 (Kd.R_base ho1) hb; replace HO488 := elR1 HO488 BK490 (Kd.R_base ho2) hb; replace BK467 := kb_ BK467 hb; replace BK468 := kb_ BK468 hb; replace BK490 := kp_ #[.int .i64 t477, .int .i64 t478, .int .i64 t479, .slice Ao72 t480.length co72, .slice Ao73 t483.length co73, .slice Ao74 t486.length co74] BK490 hb; replace HB := Aside0.mk (below_step oB hb); (try clear hk); (try clear ho1); (try clear ho2)) | ((with_reducible refine gate_dst (N := 8) rfl ?_); refine bx_ 8 #[.int .i64 0, .int .i64 0, .int .i64 0, .slice none 0 0, .slice none 0 0, .slice none 0 0, .string (⟨#[]⟩ : ByteArray)] 84 ?_; intro gb505 hg w77 hbox hb; have BK505 := Aside0.mk (hbox); have GW505 := gs_ hg; have NB467_505 := nl_ hg BK467; have NB505_467 := nr_ hg BK467; have NB468_505 := nl_ hg BK468; have NB505_468 := nr_ hg BK468; have NB490_505 := nl_ hg BK490; have NB505_490 := nr_ hg BK490; replace HO_468000 := beS0 HO_468000 hb; replace HO482 := kr_ HO482 hb; replace HO485 := kr_ HO485 hb; replace HO488 := kr_ HO488 hb; replace HO496 := kr_ HO496 hb; replace HO499 := kr_ HO499 hb; replace HO502 := kr_ HO502 hb; replace BK467 := kb_ BK467 hb; replace BK468 := kb_ BK468 hb; replace BK490 := kb_ BK490 hb; replace HB := Aside0.mk (below_step oB hb); clear hb hbox hg; have hnb78 := NB505_467.out; have hnc78 := NB467_505.out; have hnb79 := NB505_468.out; have hnc79 := NB468_505.out; have hnb80 := NB505_490.out; have hnc80 := NB490_505.out; obtain ⟨⟨_, _, _, _, _, _, _⟩, _, _, _, _, _, _, _⟩ := z7 BK505; obtain ⟨Ao82, co82, eo82⟩ := Kd.R_slice HO496.out; subst eo82; obtain ⟨Ao83, co83, eo83⟩ := Kd.R_slice HO499.out; subst eo83; obtain ⟨Ao84, co84, eo84⟩ := Kd.R_slice HO502.out; subst eo84; obtain ⟨⟨_, _⟩, _, _⟩ := z2 BK467) | ((with_reducible refine gate_callee (f := 60) rfl ?_); refine gl_ 40 Tryz.func60 (impl_spot_leave.calls kj3 t491 t492 t493 _ _ t494 _ _ t497 _ _ t500 t503 _ _ t469 t472 t506 t509 _ (rcR1 HO496 BK505) (ko HO496) (rcR1 HO499 BK505) (ko HO499) (rcR1 HO502 BK505) (ko HO502) (rcS1 HO_468000 BK505) (rnS HO_468000) A33.out) ?_; rintro e w86 ⟨v507, rfl, ho0, hb⟩; refine ⟨_, rfl, ?_⟩; have HO508 := Aside0.mk (Kd.S_lower (Kd.S_newB (Kd.S_new' (Kd.S_new' (Kd.S_new' (Kd.S_new' (Kd.S_new' (Kd.S_new' (Kd.S_new' ho0 (ltS1 HO_468000 BK505)) (ltR1 HO482 BK505)) (ltR1 HO485 BK505)) (ltR1 HO488 BK505)) (ltR1 HO496 BK505)) (ltR1 HO499 BK505)) (ltR1 HO502 BK505)) (g := gb490) (o := .cells #[.int .i64 t477, .int .i64 t478, .int .i64 t479, .slice Ao72 t480.length co72, .slice Ao73 t483.length co73, .slice Ao74 t486.length co74] 51 (0, 0)) (oF BK490)) (below_size oB)); replace HO_468000 := elS1 HO_468000 BK505 (Kd.S_base ho0) hb; replace HO482 := beR1 HO482 BK505 hb; replace HO485 := beR1 HO485 BK505 hb; replace HO488 := beR1 HO488 BK505 hb; replace HO496 := beR1 HO496 BK505 hb; replace HO499 := beR1 HO499 BK505 hb; replace HO502 := beR1 HO502 BK505 hb; replace BK467 := kb_ BK467 hb; replace BK468 := kb_ BK468 hb; replace BK490 := kb_ BK490 hb; replace BK505 := kp_ #[.int .i64 t491, .int .i64 t492, .int .i64 t493, .slice Ao82 t494.length co82, .slice Ao83 t497.length co83, .slice Ao84 t500.length co84, .string t503] BK505 hb; replace HB := Aside0.mk (below_step oB hb); (try clear hk); obtain ⟨Ao87, co87, eo87⟩ := Kd.S_slice HO508.out; subst eo87; obtain ⟨⟨_, _⟩, _, _⟩ := z2 BK467; obtain ⟨⟨_, _, _, _, _, _⟩, _, _, _, _, _, _⟩ := z6 BK490) | ((with_reducible refine gate_callee (f := 50) rfl ?_); refine gl_ 54 Tryz.func50 (impl_SetInode.calls kj3 _ _ t506 t509 t477 t478 (wrap64 (t479 - 1)) _ _ t480 _ _ t483 _ _ t486 t514 t517 _ (rcS4 HO508 BK467 gb490 (fun _ hk => hk.1.2)) (rnS HO508) (rcR3 HO482 BK467 BK490) (ko HO482) (rcR3 HO485 BK467 BK490) (ko HO485) (rcR3 HO488 BK467 BK490) (ko HO488) A64.out) ?_; rintro e w90 ⟨v515, rfl, ho0, hb⟩; refine ⟨_, rfl, ?_⟩; have HO516 := Aside0.mk (Kd.S_lower (Kd.S_newB (Kd.S_new' (Kd.S_new' (Kd.S_new' (Kd.S_new' (Kd.S_new' (Kd.S_new' (Kd.S_new' (Kd.S_new' ho0 (ltS4 HO_468000 BK467 gb490 (fun _ hk => hk.1.1.1.1.1.2))) (ltR3 HO482 BK467 BK490)) (ltR3 HO485 BK467 BK490)) (ltR3 HO488 BK467 BK490)) (ltR3 HO496 BK467 BK490)) (ltR3 HO499 BK467 BK490)) (ltR3 HO502 BK467 BK490)) (ltS4 HO508 BK467 gb490 (fun _ hk => hk.1.2))) (g := gb490) (o := .cells #[.int .i64 t477, .int .i64 t478, .int .i64 (wrap64 (t479 - 1)), .slice Ao72 t480.length co72, .slice Ao73 t483.length co73, .slice Ao74 t486.length co74] 51 (0, 0)) (oP BK490)) (below_size oB)); replace HO_468000 := elS4 HO_468000 BK467 gb490 (fun _ hk => hk.1.1.1.1.1.2) (Kd.S_base ho0) hb; replace HO482 := beR3 HO482 BK467 BK490 hb; replace HO485 := beR3 HO485 BK467 BK490 hb; replace HO488 := beR3 HO488 BK467 BK490 hb; replace HO496 := beR3 HO496 BK467 BK490 hb; replace HO499 := beR3 HO499 BK467 BK490 hb; replace HO502 := beR3 HO502 BK467 BK490 hb; replace HO508 := elS4 HO508 BK467 gb490 (fun _ hk => hk.1.2) (Kd.S_base ho0) hb; replace BK467 := kp_ #[.slice Ao87 t506.length co87, .int .i64 t509] BK467 hb; replace BK468 := kb_ BK468 hb; replace BK490 := kp_ #[.int .i64 t477, .int .i64 t478, .int .i64 (wrap64 (t479 - 1)), .slice Ao72 t480.length co72, .slice Ao73 t483.length co73, .slice Ao74 t486.length co74] BK490 hb; replace BK505 := kb_ BK505 hb; replace HB := Aside0.mk (below_step oB hb); (try clear hk); obtain ⟨Ao91, co91, eo91⟩ := Kd.S_slice HO516.out; subst eo91; obtain ⟨⟨_, _⟩, _, _⟩ := z2 BK468))
      refine bodyPost_ret (results_ct rfl _ _ gb468 26 #[.slice Ao91 t514.length co91, .int .i64 t517] (0, 0) _ rfl (oP BK468) Tryz.underlying26 rfl (by kernel_rfl)) rfl ?_
      exact ⟨_, oE, by (with_reducible repeat (first | apply Kd.S_alloc | apply Kd.S_drewN | apply Kd.S_drew)); exact Kd.S_mono (Kd.S_far (p := ⟨gb468, 1, none⟩) (Kd.S_far (p := ⟨gb468, 0, none⟩) (Kd.S_types HO516.out BK468.out (by decide)) (fun _ hk => hk.2) (.slice Ao91 t514.length co91)) (fun _ hk => hk.2) (.int .i64 t517)) (fun _ hk => trivial), oB⟩
    ·rw [if_neg c31] at H
     have c31b0 : (t489 == 0) = false := beq_eq_false_iff_ne.mpr c31
     have c31b1 : (t489 != 0) = true := bne_iff_ne.mpr c31
     simp only [Option.some.injEq, Prod.mk.injEq] at H
     obtain ⟨rfl, rfl, rfl⟩ := H
     have hnb93 := NB467_468.out
     have hnc93 := NB468_467.out
     obtain ⟨⟨_, _⟩, _, _⟩ := z2 BK467
     go_wp2_with (first | ((with_reducible refine gate_callee (f := 48) rfl ?_); refine gl_ 25 Tryz.func48 (impl_fileAt.calls kj3 _ _ t469 t472 a1 t477 t478 t479 t480 t483 t486 t489 _ (rcS0 HO_468000) (rnS HO_468000) A30.out) ?_; rintro e w95 ⟨v481, v484, v487, rfl, ho0, ho1, ho2, hb⟩; refine ⟨_, rfl, ?_⟩; have HO482 := Aside0.mk (Kd.R_lower ho0 (below_size oB)); have HO485 := Aside0.mk (Kd.R_lower ho1 (below_size oB)); have HO488 := Aside0.mk (Kd.R_lower ho2 (below_size oB)); replace HO_468000 := tdS3 (olS0 HO_468000 hb) (Kd.R_base ho0) (Kd.R_base ho1) (Kd.R_base ho2); replace BK467 := kb_ BK467 hb; replace BK468 := kb_ BK468 hb; replace HB := Aside0.mk (below_step oB hb); (try clear ho1); (try clear ho2)) | ((with_reducible refine gate_dst (N := 6) rfl ?_); refine bx_ 6 #[.int .i64 0, .int .i64 0, .int .i64 0, .slice none 0 0, .slice none 0 0, .slice none 0 0] 51 ?_; intro gb490 hg w96 hbox hb; have BK490 := Aside0.mk (hbox); have GW490 := gs_ hg; have NB467_490 := nl_ hg BK467; have NB490_467 := nr_ hg BK467; have NB468_490 := nl_ hg BK468; have NB490_468 := nr_ hg BK468; replace HO_468000 := Aside0.mk (Kd.S_below (Kd.S_elderB (nS0 HO_468000) gb490 (Nat.le_of_eq hg.symm)) hb); replace HO482 := kr_ HO482 hb; replace HO485 := kr_ HO485 hb; replace HO488 := kr_ HO488 hb; replace BK467 := kb_ BK467 hb; replace BK468 := kb_ BK468 hb; replace HB := Aside0.mk (below_step oB hb); clear hb hbox hg; have hnb97 := NB490_467.out; have hnc97 := NB467_490.out; have hnb98 := NB490_468.out; have hnc98 := NB468_490.out; obtain ⟨⟨_, _, _, _, _, _⟩, _, _, _, _, _, _⟩ := z6 BK490; obtain ⟨Ao100, co100, eo100⟩ := Kd.R_slice HO482.out; subst eo100; obtain ⟨Ao101, co101, eo101⟩ := Kd.R_slice HO485.out; subst eo101; obtain ⟨Ao102, co102, eo102⟩ := Kd.R_slice HO488.out; subst eo102; obtain ⟨⟨_, _⟩, _, _⟩ := z2 BK467; obtain ⟨⟨_, _⟩, _, _⟩ := z2 BK468))
     refine bodyPost_ret (results_ct rfl _ _ gb468 26 #[.slice Ao10 t469.length co10, .int .i64 t472] (0, 0) _ rfl (oP BK468) Tryz.underlying26 rfl (by kernel_rfl)) rfl ?_
     exact ⟨_, oE, by (with_reducible repeat (first | apply Kd.S_alloc | apply Kd.S_drewN | apply Kd.S_drew)); exact Kd.S_mono (Kd.S_far (p := ⟨gb468, 1, none⟩) (Kd.S_far (p := ⟨gb468, 0, none⟩) (Kd.S_far (p := ⟨gb490, 5, none⟩) (Kd.S_far (p := ⟨gb490, 4, none⟩) (Kd.S_far (p := ⟨gb490, 3, none⟩) (Kd.S_far (p := ⟨gb490, 2, none⟩) (Kd.S_far (p := ⟨gb490, 1, none⟩) (Kd.S_far (p := ⟨gb490, 0, none⟩) (Kd.S_types (Kd.S_mono HO_468000.out (fun k_ hk => (⟨hk, hk.2⟩ : _ ∧ k_ ≠ gb490))) BK468.out (by decide)) (fun _ hk => hk.1.2) (.int .i64 t477)) (fun _ hk => hk.1.2) (.int .i64 t478)) (fun _ hk => hk.1.2) (.int .i64 t479)) (fun _ hk => hk.1.2) (.slice Ao100 t480.length co100)) (fun _ hk => hk.1.2) (.slice Ao101 t483.length co101)) (fun _ hk => hk.1.2) (.slice Ao102 t486.length co102)) (fun _ hk => hk.2) (.slice Ao10 t469.length co10)) (fun _ hk => hk.2) (.int .i64 t472)) (fun _ hk => trivial), oB⟩

end Go.Proofs.YtkcfmbggdkkfeaaGreatDoor.P
