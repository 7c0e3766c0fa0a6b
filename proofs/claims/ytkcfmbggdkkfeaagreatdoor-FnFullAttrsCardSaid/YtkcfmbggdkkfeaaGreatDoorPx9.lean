-- By this session's own program (wip/myprint.py) out of the translation; Lean checks it.
import Derived.Test.YtkcfmbggdkkfeaaGreatDoorPx0
import Derived.Test.YtkcfmbggdkkfeaaGreatDoorPx2
import Derived.Test.YtkcfmbggdkkfeaaGreatDoorPx3
import Derived.Test.YtkcfmbggdkkfeaaGreatDoorPx6
namespace Go.Proofs.YtkcfmbggdkkfeaaGreatDoor.P
open Go.RowKit Go.Proofs.YtkcfmbggdkkfeaaGreatDoorW.PrintWords Go.Proofs.YtkcfmbggdkkfeaaGreatDoorW.PrintLast Go.Proofs.YtkcfmbggdkkfeaaGreatDoorW.PrintMore
attribute [local go_sem] max2_int min2_int max_two min_two max_three min_three max_four min_four   -- for this text's walks alone
set_option linter.unusedVariables false
set_option linter.unusedSimpArgs false

/-! ### impl_ParentOf: function 78 -/
def impl_ParentOf.f (k : Nat) (a0 : ByteArray) : Option (ByteArray × ByteArray × Bool) := (impl_SplitPath.f k a0).bind fun bt326 => (if bt326.2 = true then (if (bt326.1.length : Int) = 0 then (some ((⟨#[]⟩ : ByteArray), (⟨#[]⟩ : ByteArray), false)) else (if 0 ≤ (wrap64 ((bt326.1.length : Int) - 1)) then (if (wrap64 ((bt326.1.length : Int) - 1)) ≤ (bt326.1.length : Int) then ((impl_JoinPath.f k (bt326.1.take ((wrap64 ((bt326.1.length : Int) - 1)) : Int).toNat)).bind fun t334 => (if (wrap64 ((bt326.1.length : Int) - 1)) < (bt326.1.length : Int) then (some (t334, rdOf ByteArray.empty bt326.1 (wrap64 ((bt326.1.length : Int) - 1)), true)) else (none))) else (none)) else (none))) else (some ((⟨#[]⟩ : ByteArray), (⟨#[]⟩ : ByteArray), false)))
def impl_ParentOf.T5 : Bool × List (List Nat × List Nat) := (true, [([], []), ([], []), ([0, 1], [0, 1]), ([2], [2]), ([], []), ([], []), ([4, 5], [4, 5]), ([6], [6]), ([3, 3, 0, 1, 2, 3], [3]), ([7, 8, 0, 1, 2, 3, 4, 5, 6, 7, 8], [7]), ([9, 0, 1, 2, 3, 4, 5, 6, 7, 8, 9], [])])
def impl_ParentOf.B5 : List Nat := [0, 0, 3, 7, 0, 0, 48, 112, 15, 511, 1023]
theorem impl_ParentOf.tab5 : rtab .any (opsOf Tryz.f78 5) = impl_ParentOf.T5 := by kernel_rfl
theorem impl_ParentOf.bits5 : waitsOk impl_ParentOf.T5.2 impl_ParentOf.B5 = true := by kernel_rfl
set_option maxHeartbeats 8000000 in
set_option maxRecDepth 100000 in
theorem impl_ParentOf.calls (k : Nat) (a0 : ByteArray) (r1 : ByteArray) (r2 : ByteArray) (r3 : Bool) (w : World) (h : impl_ParentOf.f k a0 = some (r1, r2, r3)) (hG : GOk w := by exact gk_ oB (by first | (with_reducible assumption) | assumption)) :
  Calls Tryz.prog 78 #[.string a0] w fun e w' => e = .returned (.tuple #[.string r1, .string r2, .bool r3]) ∧ Below w.heap.size w w' := by
 have HG := Aside0.mk hG
 clear hG
 have HB := Aside0.mk (Below.refl w.heap.size w)
 unfold impl_ParentOf.f at h
 have H := h
 clear h
 replace H := bA H
 obtain ⟨⟨t326, t327⟩, A2, H⟩ := H
 try dsimp only at H
 replace H := itB H
 rcases H with ⟨rfl, H⟩ | ⟨rfl, H⟩
 ·by_cases c4 : (t326.length : Int) = 0
  ·rw [if_pos c4] at H
   have c4b0 : ((t326.length : Int) == 0) = true := beq_iff_eq.mpr c4
   have c4b1 : ((t326.length : Int) != 0) = false := bne_eq_false_iff_eq.mpr c4
   clear c4
   simp only [Option.some.injEq, Prod.mk.injEq] at H
   obtain ⟨rfl, rfl, rfl⟩ := H
   go_enter Tryz.func78, Tryz.ntmps78
   go_wp2_with (first | ((with_reducible refine gate_callee (f := 16) rfl ?_); refine gl_ 10 Tryz.func16 (impl_SplitPath.calls k a0 t326 true _ A2.out) ?_; rintro e w5 ⟨v328, rfl, ho0, hb⟩; refine ⟨_, rfl, ?_⟩; have HO329 := Aside0.mk (Kd.Q_lower ho0 (below_size oB)); replace HB := Aside0.mk (below_step oB hb); obtain ⟨Ao6, co6, eo6, _⟩ := Kd.Q_slice HO329.out; subst eo6))
   go_ret3
   exact ⟨oE, oB⟩
  ·rw [if_neg c4] at H
   have c4b0 : ((t326.length : Int) == 0) = false := beq_eq_false_iff_ne.mpr c4
   have c4b1 : ((t326.length : Int) != 0) = true := bne_iff_ne.mpr c4
   have c4b2 : ¬ (t326 = []) := fun h_ => c4 (by rw [h_]; rfl)
   obtain ⟨ji7, hji7⟩ : ∃ j_ : Int, (wrap64 ((t326.length : Int) - 1)) = j_ := ⟨_, rfl⟩
   replace H : (if 0 ≤ (ji7) then (if (ji7) ≤ (t326.length : Int) then ((impl_JoinPath.f k (t326.take ((ji7) : Int).toNat)).bind fun t334 => (if (ji7) < (t326.length : Int) then (some (t334, rdOf ByteArray.empty t326 (ji7), true)) else (none))) else (none)) else (none)) = some (r1, r2, r3) := by first | (rw [hji7] at H; exact H) | (simp only [hji7] at H ⊢; exact H)
   (try rw [hji7] at A2)
   have hji7w : (IntKind.i64.wrap ((t326.length : Int) - 1)) = ji7 := (i64_w _).trans hji7
   by_cases c8 : 0 ≤ (ji7)
   ·rw [if_pos c8] at H
    have c8b0 := eq_true c8
    have c8b1 : decide (0 ≤ (ji7)) = true := decide_eq_true c8
    clear c8
    by_cases c9 : (ji7) ≤ (t326.length : Int)
    ·rw [if_pos c9] at H
     have c9b0 := eq_true c9
     have c9b1 : decide ((ji7) ≤ (t326.length : Int)) = true := decide_eq_true c9
     clear c9
     obtain ⟨y330, hy330⟩ : ∃ y_ : List ByteArray, y_ = (t326.take ((ji7) : Int).toNat) := ⟨_, rfl⟩
     replace H : ((impl_JoinPath.f k y330).bind fun t334 => (if (ji7) < (t326.length : Int) then (some (t334, rdOf ByteArray.empty t326 (ji7), true)) else (none))) = some (r1, r2, r3) := by first | (rw [hy330]; with_reducible exact H) | (have H2_ := (Option.bind_some _ _).symm.trans H; rw [hy330]; with_reducible exact H2_) | (have H2_ := (Option.bind_some _ _).symm.trans H; with_reducible exact H2_) | with_reducible exact H | (rw [hy330]; exact H) | exact H
     have Ny330 := Aside0.mk hy330
     clear hy330
     replace H := bA H
     obtain ⟨t334, A10, H⟩ := H
     try dsimp only at H
     replace H := itD H
     rcases H with ⟨c11b0, H⟩ | ⟨c11b0, H⟩
     ·simp only [Option.some.injEq, Prod.mk.injEq] at H
      obtain ⟨rfl, rfl, rfl⟩ := H
      go_enter Tryz.func78, Tryz.ntmps78
      try go_wp2_with (first | ((with_reducible refine gate_callee (f := 16) rfl ?_); refine gl_ 10 Tryz.func16 (impl_SplitPath.calls k a0 t326 true _ A2.out) ?_; rintro e w12 ⟨v328, rfl, ho0, hb⟩; refine ⟨_, rfl, ?_⟩; have HO329 := Aside0.mk (Kd.Q_lower ho0 (below_size oB)); replace HB := Aside0.mk (below_step oB hb); obtain ⟨Ao13, co13, eo13, _⟩ := Kd.Q_slice HO329.out; subst eo13))
      replace HO329 := Aside0.mk (Kd.Q_drew HO329.out)
      replace HB := Aside0.mk (below_drew1 HB.out)
      have q15 : ((ji7) : Int) ≤ ((t326.length : Int) : Int) := oa
      obtain ⟨i015, hi015, _, hsz15, _⟩ := info_parts info9
      have hroom15 : t326.length ≤ co13 := (Kd.Q_reads' HO329.out).2.1
      have hC15 : Kd.C Kd.string _ Ao13 t326.length t326 := (Kd.Q_reads' HO329.out).2.2
      have hcut15 := cut_to (P := Tryz.prog) 31 9 .i64 Tryz.underlying31 hi015 Ao13 t326.length co13 (ji7) oa q15 hroom15
      have hr15 := Kd.C_take (m := ((ji7) : Int).toNat) hC15 (by omega)
      have hy15 : y330.length = ((ji7) : Int).toNat := (by rw [Ny330.out, List.length_take]; omega)
      rw [← Ny330.out] at hr15
      rw [← hy15] at hcut15
      have HR333 := Aside0.mk hr15
      have HC333 := Aside0.mk (show y330.length ≤ co13 from by omega)
      clear hr15 hC15 hroom15 hi015 hsz15
      have KY15 := Aside0.mk hy15
      clear hy15
      have KL15 := Aside0.mk (show ((ji7) : Int).toNat ≤ t326.length from by omega)
      replace q15 := eq_true q15
      have p335 : (0 ≤ ((ji7) : Int)) = True := oT
      have q335 : ((ji7) < (t326.length : Int)) = True := oT
      obtain ⟨ad335, e335, hx335_0⟩ := Kd.at_string (Kd.Q_reads' HO329.out).2.2 (ji7) oa oa
      cases e335
      refine st_ 11 (fun w' => w'.cell? (ad335.add ((ji7)).toNat) = some (.string (rdOf ByteArray.empty t326 (ji7)))) impl_ParentOf.tab5 impl_ParentOf.bits5 (hx335_0) (fun hHeld HT_ HW_ => ?_)
      generalize w12.drew = w14 at HO329 HB HR333 hx335_0 hHeld ⊢
      refine pu_ 0 23 HT_ ?_
      refine pu_ 1 24 HT_ ?_
      refine pu_ 2 25 HT_ ?_
      refine pu_ 4 27 HT_ ?_
      refine pu_ 5 28 HT_ ?_
      refine pu_ 6 29 HT_ ?_
      refine take_ (i := 7) (N := some 30) (v := ?_) (a' := ?_) (lb 11 247) rfl rfl (take_ofW HT_.out HW_.out (by kernel_rfl)) (fun _ _ _ h => h) (Or.inl ⟨by rfl, ?_⟩) hHeld ?_ ?_
      rotate_left
      ·intro w' s0
       go_simp
       with_reducible rfl
      rotate_left
      ·simp only [Act.put, List.setIfInBounds_toArray, List.set_cons_zero, List.set_cons_succ, i64_w, i32_w]
       rfl
      refine on_ 3 26 HT_ (fun K hK => ?_)
      refine gr_ 26 Tryz.func110 (impl_JoinPath.calls k _ _ y330 t334 _ ?side1 HC333.out A10.out) ?_
      (case side1 => repeat (first | exact (by repeat (first | (with_reducible exact HR333.out) | (with_reducible refine Kd.C_alloc ?_ _) | (with_reducible refine Kd.C_drewN ?_ _) | (with_reducible refine Kd.C_drew ?_) | exact HR333.out)) | (with_reducible refine Kd.C_alloc ?_ _) | (with_reducible refine Kd.C_drewN ?_ _) | (with_reducible refine Kd.C_drew ?_)))
      rintro e w16 ⟨rfl, hb⟩
      have HS0_ := (hb.cell (World.block_lt_of_cell? _ _ (hHeld))).trans (hHeld)
      refine ⟨_, rfl, ?_⟩
      replace HO329 := beQ0 HO329 hb
      replace HR333 := Aside0.mk (Kd.C_below (by repeat (first | (with_reducible exact HR333.out) | (with_reducible refine Kd.C_alloc ?_ _) | (with_reducible refine Kd.C_drewN ?_ _) | (with_reducible refine Kd.C_drew ?_) | exact HR333.out)) hb)
      replace HB := Aside0.mk (below_step oB hb)
      refine hk_ hK 26 (HS0_) (fun hHeld => ?_)
      clear hK K
      refine pu_ 8 2 HT_ ?_
      refine pu_ 9 3 HT_ ?_
      refine pu_ 10 4 HT_ ?_
      refine dn_ HT_ ?_
      try go_wp2
      go_ret3
      exact ⟨by first | rfl | (simp [errW_none, errW_some] <;> rfl) | (simp only [← hji7]; first | rfl | (simp [errW_none, errW_some] <;> rfl)) | (simp [*, errW_none, errW_some] <;> rfl), oB⟩
     ·cases H
    ·rw [if_neg c9] at H
     exact absurd H (by simp)
   ·rw [if_neg c8] at H
    exact absurd H (by simp)
 ·simp only [Option.some.injEq, Prod.mk.injEq] at H
  obtain ⟨rfl, rfl, rfl⟩ := H
  go_enter Tryz.func78, Tryz.ntmps78
  go_wp2_with (first | ((with_reducible refine gate_callee (f := 16) rfl ?_); refine gl_ 10 Tryz.func16 (impl_SplitPath.calls k a0 t326 false _ A2.out) ?_; rintro e w17 ⟨v328, rfl, ho0, hb⟩; refine ⟨_, rfl, ?_⟩; have HO329 := Aside0.mk (Kd.Q_lower ho0 (below_size oB)); replace HB := Aside0.mk (below_step oB hb)))
  go_ret3
  exact ⟨oE, oB⟩

/-! ### impl_Walk: function 31 -/
def impl_Walk.l0 : Nat → Int → List ByteArray → Int → Int → List (S51) → Int → Option (Int × Int)
 | 0, _, _, _, _, _, _ => none
 | k + 1, x8, x20, x21, x22, x287000, x287001 => if x22 < x21 then (if 0 ≤ x22 then (if x22 < (x20.length : Int) then ((impl_InodeAt.f k x287000 x287001 x8).bind fun bt292 => (if bt292.2.2.2.2.2.2 = true then (if bt292.2.1 = 2 then ((impl_EntOf.f k bt292.1 bt292.2.1 bt292.2.2.1 bt292.2.2.2.1 bt292.2.2.2.2.1 bt292.2.2.2.2.2.1 (rdOf ByteArray.empty x20 x22)).bind fun t306 => (if t306 = 0 then (some (0, 2)) else (impl_Walk.l0 k t306 x20 x21 (wrap64 (x22 + 1)) x287000 x287001))) else (some (0, 3))) else (some (0, 2)))) else (none)) else (none)) else (some (x8, 0))
def impl_Walk.f (k : Nat) (l0_0 : List (S51)) (a0_1 : Int) (a1 : ByteArray) : Option (Int × Int) := (impl_SplitPath.f k a1).bind fun bt287 => (if bt287.2 = true then (impl_Walk.l0 k 1 bt287.1 (bt287.1.length : Int) 0 l0_0 a0_1) else (some (0, 1)))
set_option maxHeartbeats 8000000 in
set_option maxRecDepth 100000 in
theorem impl_Walk.calls (k : Nat) (A0_0 : Option Addr) (c0_0 : Nat) (l0_0 : List (S51)) (a0_1 : Int) (a1 : ByteArray) (r1 : Int) (r2 : Int) (w : World) (hr0_0 : Kd.C k51 w A0_0 l0_0.length l0_0) (hc0_0 : l0_0.length ≤ c0_0) (h : impl_Walk.f k l0_0 a0_1 a1 = some (r1, r2)) (hG : GOk w := by exact gk_ oB (by first | (with_reducible assumption) | assumption)) :
  Calls Tryz.prog 31 #[.agg #[.slice A0_0 l0_0.length c0_0, .int .i64 a0_1], .string a1] w fun e w' => e = .returned (.tuple #[.int .i64 r1, .int .i64 r2]) ∧ Below w.heap.size w w' := by
 have HG := Aside0.mk hG
 clear hG
 have hu26 := Tryz.underlying26
 have hu51 := Tryz.underlying51
 have HR0_0 := Aside0.mk hr0_0
 have HC0_0 := Aside0.mk hc0_0
 clear hr0_0 hc0_0
 have HB := Aside0.mk (Below.refl w.heap.size w)
 unfold impl_Walk.f at h
 have H := h
 clear h
 replace H := bA H
 obtain ⟨⟨t287, t288⟩, A3, H⟩ := H
 try dsimp only at H
 replace H := itB H
 rcases H with ⟨rfl, H⟩ | ⟨rfl, H⟩
 ·have H' := Aside0.mk H
  clear H
  go_enter Tryz.func31, Tryz.ntmps31
  go_wp2_with (first | ((with_reducible refine gate_dst (N := 2) rfl ?_); refine bx_ 2 #[.slice A0_0 l0_0.length c0_0, .int .i64 a0_1] 26 ?_; intro gb286 hg w5 hbox hb; have BK286 := Aside0.mk (hbox); have GW286 := gs_ hg; replace HB := Aside0.mk (below_step oB hb); clear hb hbox hg) | ((with_reducible refine gate_callee (f := 16) rfl ?_); refine gl_ 15 Tryz.func16 (impl_SplitPath.calls k a1 t287 true _ A3.out) ?_; rintro e w6 ⟨v289, rfl, ho0, hb⟩; refine ⟨_, rfl, ?_⟩; have HO290 := Aside0.mk (Kd.Q_lower ho0 (below_size oB)); replace BK286 := kb_ BK286 hb; replace HB := Aside0.mk (below_step oB hb); obtain ⟨Ao7, co7, eo7, _⟩ := Kd.Q_slice HO290.out; subst eo7))
  go_loopg [8, 22] k (fun kq v8 v22 w' => ∃ (x8_1 : Int) (x22_1 : Int), v8 = .int .i64 x8_1 ∧ v22 = .int .i64 x22_1 ∧ Aside0 (impl_Walk.l0 kq x8_1 t287 (t287.length : Int) x22_1 l0_0 a0_1 = some (r1, r2)) ∧ Aside0 (kq ≤ k) ∧ Aside0 (Kd.Q Kd.string 9 w' w.heap.size (fun _ => True) (.slice Ao7 t287.length co7) t287) ∧ Aside0 (w'.heap[gb286]? = some (.cells #[(.slice A0_0 l0_0.length c0_0), .int .i64 a0_1] 26 (0, 0))) ∧ Aside0 (Below w.heap.size w w'))
  case atStart => exact ⟨(1), (0), oS, oS, H', ⟨Nat.le_refl _⟩, ⟨by (with_reducible repeat (first | apply Kd.Q_alloc | apply Kd.Q_drewN | apply Kd.Q_drew)); exact HO290.out⟩, ⟨oF BK286⟩, ⟨oB⟩⟩
  case round =>
   clear H'
   obtain ⟨x8_1, x22_1, rfl, rfl, HA, HK1, HO_20, BK286, HB⟩ := hrel
   cases gk with
   | zero => exact absurd HA.out (by simp [impl_Walk.l0])
   | succ k1 =>
    have H := HA.out
    clear HA
    simp only [impl_Walk.l0] at H
    replace H := itD H
    rcases H with ⟨c8b0, H⟩ | ⟨c8b0, H⟩
    ·replace H := itD H
     rcases H with ⟨c9b0, H⟩ | ⟨c9b0, H⟩
     ·replace H := itD H
      rcases H with ⟨c10b0, H⟩ | ⟨c10b0, H⟩
      ·replace H := bA H
       obtain ⟨⟨t292, t293, t294, t295, t298, t301, t304⟩, A11, H⟩ := H
       try dsimp only at H
       replace H := itB H
       rcases H with ⟨rfl, H⟩ | ⟨rfl, H⟩
       ·by_cases c13 : t293 = 2
        ·rw [if_pos c13] at H
         have c13b0 : (t293 == 2) = true := beq_iff_eq.mpr c13
         have c13b1 : (t293 != 2) = false := bne_eq_false_iff_eq.mpr c13
         clear c13
         replace H := bA H
         obtain ⟨t306, A14, H⟩ := H
         try dsimp only at H
         by_cases c15 : t306 = 0
         ·rw [if_pos c15] at H
          have c15b0 : (t306 == 0) = true := beq_iff_eq.mpr c15
          have c15b1 : (t306 != 0) = false := bne_eq_false_iff_eq.mpr c15
          clear c15
          simp only [Option.some.injEq, Prod.mk.injEq] at H
          obtain ⟨rfl, rfl⟩ := H
          have p291 : (0 ≤ (x22_1 : Int)) = True := oT
          have q291 : (x22_1 < (t287.length : Int)) = True := oT
          obtain ⟨ad291, e291, hx291_0⟩ := Kd.at_string (Kd.Q_reads' HO_20.out).2.2 x22_1 oa oa
          cases e291
          obtain ⟨⟨_, _⟩, _, _⟩ := z2 BK286
          go_wp2_with (first | ((with_reducible refine gate_callee (f := 42) rfl ?_); refine gl_ 29 Tryz.func42 (impl_InodeAt.calls k1 _ _ l0_0 a0_1 x8_1 t292 t293 t294 t295 t298 t301 true _ (kC HR0_0) HC0_0.out A11.out) ?_; rintro e w17 ⟨v296, v299, v302, rfl, ho0, ho1, ho2, hb⟩; refine ⟨_, rfl, ?_⟩; have HO297 := Aside0.mk (Kd.R_lower ho0 (below_size oB)); have HO300 := Aside0.mk (Kd.R_lower ho1 (below_size oB)); have HO303 := Aside0.mk (Kd.R_lower ho2 (below_size oB)); replace HO_20 := beQ0 HO_20 hb; replace BK286 := kb_ BK286 hb; replace HB := Aside0.mk (below_step oB hb); (try clear ho1); (try clear ho2)) | ((with_reducible refine gate_dst (N := 11) rfl ?_); refine bx_ 11 #[.int .i64 0, .int .i64 0, .int .i64 0, .slice none 0 0, .slice none 0 0, .slice none 0 0] 51 ?_; intro gb305 hg w18 hbox hb; have BK305 := Aside0.mk (hbox); have GW305 := gs_ hg; have NB286_305 := nl_ hg BK286; have NB305_286 := nr_ hg BK286; replace HO_20 := beQ0 HO_20 hb; replace HO297 := kr_ HO297 hb; replace HO300 := kr_ HO300 hb; replace HO303 := kr_ HO303 hb; replace BK286 := kb_ BK286 hb; replace HB := Aside0.mk (below_step oB hb); clear hb hbox hg; have hnb19 := NB305_286.out; have hnc19 := NB286_305.out; obtain ⟨⟨_, _, _, _, _, _⟩, _, _, _, _, _, _⟩ := z6 BK305; obtain ⟨Ao21, co21, eo21⟩ := Kd.R_slice HO297.out; subst eo21; obtain ⟨Ao22, co22, eo22⟩ := Kd.R_slice HO300.out; subst eo22; obtain ⟨Ao23, co23, eo23⟩ := Kd.R_slice HO303.out; subst eo23) | ((with_reducible refine gate_callee (f := 58) rfl ?_); refine gl_ 41 Tryz.func58 (impl_EntOf.calls k1 t292 t293 t294 _ _ t295 _ _ t298 _ _ t301 (rdOf ByteArray.empty t287 x22_1) t306 _ (rcR1 HO297 BK305) (ko HO297) (rcR1 HO300 BK305) (ko HO300) (rcR1 HO303 BK305) (ko HO303) A14.out) ?_; rintro e w24 ⟨rfl, hb⟩; refine ⟨_, rfl, ?_⟩; replace HO_20 := beQ1 HO_20 BK305 hb; replace HO297 := beR1 HO297 BK305 hb; replace HO300 := beR1 HO300 BK305 hb; replace HO303 := beR1 HO303 BK305 hb; replace BK286 := kb_ BK286 hb; replace BK305 := kp_ #[.int .i64 t292, .int .i64 t293, .int .i64 t294, .slice Ao21 t295.length co21, .slice Ao22 t298.length co22, .slice Ao23 t301.length co23] BK305 hb; replace HB := Aside0.mk (below_step oB hb); (try clear hk)))
          go_ret2
          exact ⟨oE, oB⟩
         ·rw [if_neg c15] at H
          have c15b0 : (t306 == 0) = false := beq_eq_false_iff_ne.mpr c15
          have c15b1 : (t306 != 0) = true := bne_iff_ne.mpr c15
          have H' := Aside0.mk H
          clear H
          have p291 : (0 ≤ (x22_1 : Int)) = True := oT
          have q291 : (x22_1 < (t287.length : Int)) = True := oT
          obtain ⟨ad291, e291, hx291_0⟩ := Kd.at_string (Kd.Q_reads' HO_20.out).2.2 x22_1 oa oa
          cases e291
          obtain ⟨⟨_, _⟩, _, _⟩ := z2 BK286
          go_wp2_with (first | ((with_reducible refine gate_callee (f := 42) rfl ?_); refine gl_ 29 Tryz.func42 (impl_InodeAt.calls k1 _ _ l0_0 a0_1 x8_1 t292 t293 t294 t295 t298 t301 true _ (kC HR0_0) HC0_0.out A11.out) ?_; rintro e w26 ⟨v296, v299, v302, rfl, ho0, ho1, ho2, hb⟩; refine ⟨_, rfl, ?_⟩; have HO297 := Aside0.mk (Kd.R_lower ho0 (below_size oB)); have HO300 := Aside0.mk (Kd.R_lower ho1 (below_size oB)); have HO303 := Aside0.mk (Kd.R_lower ho2 (below_size oB)); replace HO_20 := beQ0 HO_20 hb; replace BK286 := kb_ BK286 hb; replace HB := Aside0.mk (below_step oB hb); (try clear ho1); (try clear ho2)) | ((with_reducible refine gate_dst (N := 11) rfl ?_); refine bx_ 11 #[.int .i64 0, .int .i64 0, .int .i64 0, .slice none 0 0, .slice none 0 0, .slice none 0 0] 51 ?_; intro gb305 hg w27 hbox hb; have BK305 := Aside0.mk (hbox); have GW305 := gs_ hg; have NB286_305 := nl_ hg BK286; have NB305_286 := nr_ hg BK286; replace HO_20 := beQ0 HO_20 hb; replace HO297 := kr_ HO297 hb; replace HO300 := kr_ HO300 hb; replace HO303 := kr_ HO303 hb; replace BK286 := kb_ BK286 hb; replace HB := Aside0.mk (below_step oB hb); clear hb hbox hg; have hnb28 := NB305_286.out; have hnc28 := NB286_305.out; obtain ⟨⟨_, _, _, _, _, _⟩, _, _, _, _, _, _⟩ := z6 BK305; obtain ⟨Ao30, co30, eo30⟩ := Kd.R_slice HO297.out; subst eo30; obtain ⟨Ao31, co31, eo31⟩ := Kd.R_slice HO300.out; subst eo31; obtain ⟨Ao32, co32, eo32⟩ := Kd.R_slice HO303.out; subst eo32) | ((with_reducible refine gate_callee (f := 58) rfl ?_); refine gl_ 41 Tryz.func58 (impl_EntOf.calls k1 t292 t293 t294 _ _ t295 _ _ t298 _ _ t301 (rdOf ByteArray.empty t287 x22_1) t306 _ (rcR1 HO297 BK305) (ko HO297) (rcR1 HO300 BK305) (ko HO300) (rcR1 HO303 BK305) (ko HO303) A14.out) ?_; rintro e w33 ⟨rfl, hb⟩; refine ⟨_, rfl, ?_⟩; replace HO_20 := beQ1 HO_20 BK305 hb; replace HO297 := beR1 HO297 BK305 hb; replace HO300 := beR1 HO300 BK305 hb; replace HO303 := beR1 HO303 BK305 hb; replace BK286 := kb_ BK286 hb; replace BK305 := kp_ #[.int .i64 t292, .int .i64 t293, .int .i64 t294, .slice Ao30 t295.length co30, .slice Ao31 t298.length co31, .slice Ao32 t301.length co32] BK305 hb; replace HB := Aside0.mk (below_step oB hb); (try clear hk)))
          go_roundg k1
          case measure => have := HK1.out; omega
          case rel => exact ⟨(t306), (wrap64 (x22_1 + 1)), oS, oS, H', ⟨by have := HK1.out; omega⟩, ⟨by (with_reducible repeat (first | apply Kd.Q_alloc | apply Kd.Q_drewN | apply Kd.Q_drew)); exact HO_20.out⟩, ⟨oF BK286⟩, ⟨oB⟩⟩
        ·rw [if_neg c13] at H
         have c13b0 : (t293 == 2) = false := beq_eq_false_iff_ne.mpr c13
         have c13b1 : (t293 != 2) = true := bne_iff_ne.mpr c13
         simp only [Option.some.injEq, Prod.mk.injEq] at H
         obtain ⟨rfl, rfl⟩ := H
         have p291 : (0 ≤ (x22_1 : Int)) = True := oT
         have q291 : (x22_1 < (t287.length : Int)) = True := oT
         obtain ⟨ad291, e291, hx291_0⟩ := Kd.at_string (Kd.Q_reads' HO_20.out).2.2 x22_1 oa oa
         cases e291
         obtain ⟨⟨_, _⟩, _, _⟩ := z2 BK286
         go_wp2_with (first | ((with_reducible refine gate_callee (f := 42) rfl ?_); refine gl_ 29 Tryz.func42 (impl_InodeAt.calls k1 _ _ l0_0 a0_1 x8_1 t292 t293 t294 t295 t298 t301 true _ (kC HR0_0) HC0_0.out A11.out) ?_; rintro e w35 ⟨v296, v299, v302, rfl, ho0, ho1, ho2, hb⟩; refine ⟨_, rfl, ?_⟩; have HO297 := Aside0.mk (Kd.R_lower ho0 (below_size oB)); have HO300 := Aside0.mk (Kd.R_lower ho1 (below_size oB)); have HO303 := Aside0.mk (Kd.R_lower ho2 (below_size oB)); replace HO_20 := beQ0 HO_20 hb; replace BK286 := kb_ BK286 hb; replace HB := Aside0.mk (below_step oB hb); (try clear ho1); (try clear ho2)) | ((with_reducible refine gate_dst (N := 11) rfl ?_); refine bx_ 11 #[.int .i64 0, .int .i64 0, .int .i64 0, .slice none 0 0, .slice none 0 0, .slice none 0 0] 51 ?_; intro gb305 hg w36 hbox hb; have BK305 := Aside0.mk (hbox); have GW305 := gs_ hg; have NB286_305 := nl_ hg BK286; have NB305_286 := nr_ hg BK286; replace HO_20 := beQ0 HO_20 hb; replace HO297 := kr_ HO297 hb; replace HO300 := kr_ HO300 hb; replace HO303 := kr_ HO303 hb; replace BK286 := kb_ BK286 hb; replace HB := Aside0.mk (below_step oB hb); clear hb hbox hg; have hnb37 := NB305_286.out; have hnc37 := NB286_305.out; obtain ⟨⟨_, _, _, _, _, _⟩, _, _, _, _, _, _⟩ := z6 BK305; obtain ⟨Ao39, co39, eo39⟩ := Kd.R_slice HO297.out; subst eo39; obtain ⟨Ao40, co40, eo40⟩ := Kd.R_slice HO300.out; subst eo40; obtain ⟨Ao41, co41, eo41⟩ := Kd.R_slice HO303.out; subst eo41))
         go_ret2
         exact ⟨oE, oB⟩
       ·simp only [Option.some.injEq, Prod.mk.injEq] at H
        obtain ⟨rfl, rfl⟩ := H
        have p291 : (0 ≤ (x22_1 : Int)) = True := oT
        have q291 : (x22_1 < (t287.length : Int)) = True := oT
        obtain ⟨ad291, e291, hx291_0⟩ := Kd.at_string (Kd.Q_reads' HO_20.out).2.2 x22_1 oa oa
        cases e291
        obtain ⟨⟨_, _⟩, _, _⟩ := z2 BK286
        go_wp2_with (first | ((with_reducible refine gate_callee (f := 42) rfl ?_); refine gl_ 29 Tryz.func42 (impl_InodeAt.calls k1 _ _ l0_0 a0_1 x8_1 t292 t293 t294 t295 t298 t301 false _ (kC HR0_0) HC0_0.out A11.out) ?_; rintro e w43 ⟨v296, v299, v302, rfl, ho0, ho1, ho2, hb⟩; refine ⟨_, rfl, ?_⟩; have HO297 := Aside0.mk (Kd.R_lower ho0 (below_size oB)); have HO300 := Aside0.mk (Kd.R_lower ho1 (below_size oB)); have HO303 := Aside0.mk (Kd.R_lower ho2 (below_size oB)); replace HO_20 := beQ0 HO_20 hb; replace BK286 := kb_ BK286 hb; replace HB := Aside0.mk (below_step oB hb); (try clear ho1); (try clear ho2)) | ((with_reducible refine gate_dst (N := 11) rfl ?_); refine bx_ 11 #[.int .i64 0, .int .i64 0, .int .i64 0, .slice none 0 0, .slice none 0 0, .slice none 0 0] 51 ?_; intro gb305 hg w44 hbox hb; have BK305 := Aside0.mk (hbox); have GW305 := gs_ hg; have NB286_305 := nl_ hg BK286; have NB305_286 := nr_ hg BK286; replace HO_20 := beQ0 HO_20 hb; replace HO297 := kr_ HO297 hb; replace HO300 := kr_ HO300 hb; replace HO303 := kr_ HO303 hb; replace BK286 := kb_ BK286 hb; replace HB := Aside0.mk (below_step oB hb); clear hb hbox hg; have hnb45 := NB305_286.out; have hnc45 := NB286_305.out; obtain ⟨⟨_, _, _, _, _, _⟩, _, _, _, _, _, _⟩ := z6 BK305; obtain ⟨Ao47, co47, eo47⟩ := Kd.R_slice HO297.out; subst eo47; obtain ⟨Ao48, co48, eo48⟩ := Kd.R_slice HO300.out; subst eo48; obtain ⟨Ao49, co49, eo49⟩ := Kd.R_slice HO303.out; subst eo49))
        go_ret2
        exact ⟨oE, oB⟩
      ·cases H
     ·cases H
    ·simp only [Option.some.injEq, Prod.mk.injEq] at H
     obtain ⟨rfl, rfl⟩ := H
     go_wp2
     go_ret2
     exact ⟨oE, oB⟩
 ·simp only [Option.some.injEq, Prod.mk.injEq] at H
  obtain ⟨rfl, rfl⟩ := H
  go_enter Tryz.func31, Tryz.ntmps31
  go_wp2_with (first | ((with_reducible refine gate_dst (N := 2) rfl ?_); refine bx_ 2 #[.slice A0_0 l0_0.length c0_0, .int .i64 a0_1] 26 ?_; intro gb286 hg w50 hbox hb; have BK286 := Aside0.mk (hbox); have GW286 := gs_ hg; replace HB := Aside0.mk (below_step oB hb); clear hb hbox hg) | ((with_reducible refine gate_callee (f := 16) rfl ?_); refine gl_ 15 Tryz.func16 (impl_SplitPath.calls k a1 t287 false _ A3.out) ?_; rintro e w51 ⟨v289, rfl, ho0, hb⟩; refine ⟨_, rfl, ?_⟩; have HO290 := Aside0.mk (Kd.Q_lower ho0 (below_size oB)); replace BK286 := kb_ BK286 hb; replace HB := Aside0.mk (below_step oB hb)))
  go_ret2
  exact ⟨oE, oB⟩

end Go.Proofs.YtkcfmbggdkkfeaaGreatDoor.P
