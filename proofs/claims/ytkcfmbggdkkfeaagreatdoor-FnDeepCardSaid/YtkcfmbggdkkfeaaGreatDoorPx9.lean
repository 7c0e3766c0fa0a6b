-- By this session's own program (wip/myprint.py) out of the translation; Lean checks it.
import Derived.Test.YtkcfmbggdkkfeaaGreatDoorPx0
import Derived.Test.YtkcfmbggdkkfeaaGreatDoorPx2
import Derived.Test.YtkcfmbggdkkfeaaGreatDoorPx3
import Derived.Test.YtkcfmbggdkkfeaaGreatDoorPx6
namespace Go.Proofs.YtkcfmbggdkkfeaaGreatDoor.P
open Go.RowKit Go.Proofs.YtkcfmbggdkkfeaaGreatDoorW.PrintWords Go.Proofs.YtkcfmbggdkkfeaaGreatDoorW.PrintLast Go.Proofs.YtkcfmbggdkkfeaaGreatDoorW.PrintMore
attribute [local go_sem] max2_int min2_int max_two min_two max_three min_three max_four min_four   -- for this text's walks alone
set_option linter.unusedVariables false
set_option linter.unusedSimpArgs false

/-! ### impl_ParentOf: function 78 -/
def impl_ParentOf.f (k : Nat) (a0 : ByteArray) : Option (ByteArray × ByteArray × Bool) := (impl_SplitPath.f k a0).bind fun bt325 => (if bt325.2 = true then (if (bt325.1.length : Int) = 0 then (some ((⟨#[]⟩ : ByteArray), (⟨#[]⟩ : ByteArray), false)) else (if 0 ≤ (wrap64 ((bt325.1.length : Int) - 1)) then (if (wrap64 ((bt325.1.length : Int) - 1)) ≤ (bt325.1.length : Int) then ((impl_JoinPath.f k (bt325.1.take ((wrap64 ((bt325.1.length : Int) - 1)) : Int).toNat)).bind fun t333 => (if (wrap64 ((bt325.1.length : Int) - 1)) < (bt325.1.length : Int) then (some (t333, rdOf ByteArray.empty bt325.1 (wrap64 ((bt325.1.length : Int) - 1)), true)) else (none))) else (none)) else (none))) else (some ((⟨#[]⟩ : ByteArray), (⟨#[]⟩ : ByteArray), false)))
def impl_ParentOf.T5 : Bool × List (List Nat × List Nat) := (true, [([], []), ([], []), ([0, 1], [0, 1]), ([2], [2]), ([], []), ([], []), ([4, 5], [4, 5]), ([6], [6]), ([3, 3, 0, 1, 2, 3], [3]), ([7, 8, 0, 1, 2, 3, 4, 5, 6, 7, 8], [7]), ([9, 0, 1, 2, 3, 4, 5, 6, 7, 8, 9], [])])
def impl_ParentOf.B5 : List Nat := [0, 0, 3, 7, 0, 0, 48, 112, 15, 511, 1023]
theorem impl_ParentOf.tab5 : rtab .any (opsOf Tryz.f78 5) = impl_ParentOf.T5 := by kernel_rfl
theorem impl_ParentOf.bits5 : waitsOk impl_ParentOf.T5.2 impl_ParentOf.B5 = true := by kernel_rfl
set_option maxHeartbeats 8000000 in
set_option maxRecDepth 100000 in
theorem impl_ParentOf.calls (k : Nat) (a0 : ByteArray) (r1 : ByteArray) (r2 : ByteArray) (r3 : Bool) (w : World) (h : impl_ParentOf.f k a0 = some (r1, r2, r3)) (hG : GOk w := by exact gk_ oB (by first | (with_reducible assumption) | assumption)) :
  Calls Tryz.prog 78 #[.string a0] w fun e w' => e = .returned (.tuple #[.string r1, .string r2, .bool r3]) ∧ Below w.heap.size w w' := by
 have HG := Aside0.mk hG
 clear hG
 have HB := Aside0.mk (Below.refl w.heap.size w)
 unfold impl_ParentOf.f at h
 have H := h
 clear h
 replace H := bA H
 obtain ⟨⟨t325, t326⟩, A2, H⟩ := H
 try dsimp only at H
 replace H := itB H
 rcases H with ⟨rfl, H⟩ | ⟨rfl, H⟩
 ·by_cases c4 : (t325.length : Int) = 0
  ·rw [if_pos c4] at H
   have c4b0 : ((t325.length : Int) == 0) = true := beq_iff_eq.mpr c4
   have c4b1 : ((t325.length : Int) != 0) = false := bne_eq_false_iff_eq.mpr c4
   clear c4
   simp only [Option.some.injEq, Prod.mk.injEq] at H
   obtain ⟨rfl, rfl, rfl⟩ := H
   go_enter Tryz.func78, Tryz.ntmps78
   go_wp2_with (first | ((with_reducible refine gate_callee (f := 16) rfl ?_); refine gl_ 10 Tryz.func16 (impl_SplitPath.calls k a0 t325 true _ A2.out) ?_; rintro e w5 ⟨v327, rfl, ho0, hb⟩; refine ⟨_, rfl, ?_⟩; have HO328 := Aside0.mk (Kd.Q_lower ho0 (below_size oB)); replace HB := Aside0.mk (below_step oB hb); obtain ⟨Ao6, co6, eo6, _⟩ := Kd.Q_slice HO328.out; subst eo6))
   go_ret3
   exact ⟨oE, oB⟩
  ·rw [if_neg c4] at H
   have c4b0 : ((t325.length : Int) == 0) = false := beq_eq_false_iff_ne.mpr c4
   have c4b1 : ((t325.length : Int) != 0) = true := bne_iff_ne.mpr c4
   have c4b2 : ¬ (t325 = []) := fun h_ => c4 (by rw [h_]; rfl)
   obtain ⟨ji7, hji7⟩ : ∃ j_ : Int, (wrap64 ((t325.length : Int) - 1)) = j_ := ⟨_, rfl⟩
   replace H : (if 0 ≤ (ji7) then (if (ji7) ≤ (t325.length : Int) then ((impl_JoinPath.f k (t325.take ((ji7) : Int).toNat)).bind fun t333 => (if (ji7) < (t325.length : Int) then (some (t333, rdOf ByteArray.empty t325 (ji7), true)) else (none))) else (none)) else (none)) = some (r1, r2, r3) := by first | (rw [hji7] at H; exact H) | (simp only [hji7] at H ⊢; exact H)
   (try rw [hji7] at A2)
   have hji7w : (IntKind.i64.wrap ((t325.length : Int) - 1)) = ji7 := (i64_w _).trans hji7
   by_cases c8 : 0 ≤ (ji7)
   ·rw [if_pos c8] at H
    have c8b0 := eq_true c8
    have c8b1 : decide (0 ≤ (ji7)) = true := decide_eq_true c8
    clear c8
    by_cases c9 : (ji7) ≤ (t325.length : Int)
    ·rw [if_pos c9] at H
     have c9b0 := eq_true c9
     have c9b1 : decide ((ji7) ≤ (t325.length : Int)) = true := decide_eq_true c9
     clear c9
     obtain ⟨y329, hy329⟩ : ∃ y_ : List ByteArray, y_ = (t325.take ((ji7) : Int).toNat) := ⟨_, rfl⟩
     replace H : ((impl_JoinPath.f k y329).bind fun t333 => (if (ji7) < (t325.length : Int) then (some (t333, rdOf ByteArray.empty t325 (ji7), true)) else (none))) = some (r1, r2, r3) := by first | (rw [hy329]; with_reducible exact H) | (have H2_ := (Option.bind_some _ _).symm.trans H; rw [hy329]; with_reducible exact H2_) | (have H2_ := (Option.bind_some _ _).symm.trans H; with_reducible exact H2_) | with_reducible exact H | (rw [hy329]; exact H) | exact H
     have Ny329 := Aside0.mk hy329
     clear hy329
     replace H := bA H
     obtain ⟨t333, A10, H⟩ := H
     try dsimp only at H
     replace H := itD H
     rcases H with ⟨c11b0, H⟩ | ⟨c11b0, H⟩
     ·simp only [Option.some.injEq, Prod.mk.injEq] at H
      obtain ⟨rfl, rfl, rfl⟩ := H
      go_enter Tryz.func78, Tryz.ntmps78
      try go_wp2_with (first | ((with_reducible refine gate_callee (f := 16) rfl ?_); refine gl_ 10 Tryz.func16 (impl_SplitPath.calls k a0 t325 true _ A2.out) ?_; rintro e w12 ⟨v327, rfl, ho0, hb⟩; refine ⟨_, rfl, ?_⟩; have HO328 := Aside0.mk (Kd.Q_lower ho0 (below_size oB)); replace HB := Aside0.mk (below_step oB hb); obtain ⟨Ao13, co13, eo13, _⟩ := Kd.Q_slice HO328.out; subst eo13))
      replace HO328 := Aside0.mk (Kd.Q_drew HO328.out)
      replace HB := Aside0.mk (below_drew1 HB.out)
      have q15 : ((ji7) : Int) ≤ ((t325.length : Int) : Int) := oa
      obtain ⟨i015, hi015, _, hsz15, _⟩ := info_parts info9
      have hroom15 : t325.length ≤ co13 := (Kd.Q_reads' HO328.out).2.1
      have hC15 : Kd.C Kd.string _ Ao13 t325.length t325 := (Kd.Q_reads' HO328.out).2.2
      have hcut15 := cut_to (P := Tryz.prog) 31 9 .i64 Tryz.underlying31 hi015 Ao13 t325.length co13 (ji7) oa q15 hroom15
      have hr15 := Kd.C_take (m := ((ji7) : Int).toNat) hC15 (by omega)
      have hy15 : y329.length = ((ji7) : Int).toNat := (by rw [Ny329.out, List.length_take]; omega)
      rw [← Ny329.out] at hr15
      rw [← hy15] at hcut15
      have HR332 := Aside0.mk hr15
      have HC332 := Aside0.mk (show y329.length ≤ co13 from by omega)
      clear hr15 hC15 hroom15 hi015 hsz15
      have KY15 := Aside0.mk hy15
      clear hy15
      have KL15 := Aside0.mk (show ((ji7) : Int).toNat ≤ t325.length from by omega)
      replace q15 := eq_true q15
      have p334 : (0 ≤ ((ji7) : Int)) = True := oT
      have q334 : ((ji7) < (t325.length : Int)) = True := oT
      obtain ⟨ad334, e334, hx334_0⟩ := Kd.at_string (Kd.Q_reads' HO328.out).2.2 (ji7) oa oa
      cases e334
      refine st_ 11 (fun w' => w'.cell? (ad334.add ((ji7)).toNat) = some (.string (rdOf ByteArray.empty t325 (ji7)))) impl_ParentOf.tab5 impl_ParentOf.bits5 (hx334_0) (fun hHeld HT_ HW_ => ?_)
      generalize w12.drew = w14 at HO328 HB HR332 hx334_0 hHeld ⊢
      refine pu_ 0 23 HT_ ?_
      refine pu_ 1 24 HT_ ?_
      refine pu_ 2 25 HT_ ?_
      refine pu_ 4 27 HT_ ?_
      refine pu_ 5 28 HT_ ?_
      refine pu_ 6 29 HT_ ?_
      refine take_ (i := 7) (N := some 30) (v := ?_) (a' := ?_) (lb 11 247) rfl rfl (take_ofW HT_.out HW_.out (by kernel_rfl)) (fun _ _ _ h => h) (Or.inl ⟨by rfl, ?_⟩) hHeld ?_ ?_
      rotate_left
      ·intro w' s0
       go_simp
       with_reducible rfl
      rotate_left
      ·simp only [Act.put, List.setIfInBounds_toArray, List.set_cons_zero, List.set_cons_succ, i64_w, i32_w]
       rfl
      refine on_ 3 26 HT_ (fun K hK => ?_)
      refine gr_ 26 Tryz.func110 (impl_JoinPath.calls k _ _ y329 t333 _ ?side1 HC332.out A10.out) ?_
      (case side1 => repeat (first | exact (by repeat (first | (with_reducible exact HR332.out) | (with_reducible refine Kd.C_alloc ?_ _) | (with_reducible refine Kd.C_drewN ?_ _) | (with_reducible refine Kd.C_drew ?_) | exact HR332.out)) | (with_reducible refine Kd.C_alloc ?_ _) | (with_reducible refine Kd.C_drewN ?_ _) | (with_reducible refine Kd.C_drew ?_)))
      rintro e w16 ⟨rfl, hb⟩
      have HS0_ := (hb.cell (World.block_lt_of_cell? _ _ (hHeld))).trans (hHeld)
      refine ⟨_, rfl, ?_⟩
      replace HO328 := beQ0 HO328 hb
      replace HR332 := Aside0.mk (Kd.C_below (by repeat (first | (with_reducible exact HR332.out) | (with_reducible refine Kd.C_alloc ?_ _) | (with_reducible refine Kd.C_drewN ?_ _) | (with_reducible refine Kd.C_drew ?_) | exact HR332.out)) hb)
      replace HB := Aside0.mk (below_step oB hb)
      refine hk_ hK 26 (HS0_) (fun hHeld => ?_)
      clear hK K
      refine pu_ 8 2 HT_ ?_
      refine pu_ 9 3 HT_ ?_
      refine pu_ 10 4 HT_ ?_
      refine dn_ HT_ ?_
      try go_wp2
      go_ret3
      exact ⟨by first | rfl | (simp [errW_none, errW_some] <;> rfl) | (simp only [← hji7]; first | rfl | (simp [errW_none, errW_some] <;> rfl)) | (simp [*, errW_none, errW_some] <;> rfl), oB⟩
     ·cases H
    ·rw [if_neg c9] at H
     exact absurd H (by simp)
   ·rw [if_neg c8] at H
    exact absurd H (by simp)
 ·simp only [Option.some.injEq, Prod.mk.injEq] at H
  obtain ⟨rfl, rfl, rfl⟩ := H
  go_enter Tryz.func78, Tryz.ntmps78
  go_wp2_with (first | ((with_reducible refine gate_callee (f := 16) rfl ?_); refine gl_ 10 Tryz.func16 (impl_SplitPath.calls k a0 t325 false _ A2.out) ?_; rintro e w17 ⟨v327, rfl, ho0, hb⟩; refine ⟨_, rfl, ?_⟩; have HO328 := Aside0.mk (Kd.Q_lower ho0 (below_size oB)); replace HB := Aside0.mk (below_step oB hb)))
  go_ret3
  exact ⟨oE, oB⟩

/-! ### impl_Walk: function 31 -/
def impl_Walk.l0 : Nat → Int → List ByteArray → Int → Int → List (S51) → Int → Option (Int × Int)
 | 0, _, _, _, _, _, _ => none
 | k + 1, x8, x20, x21, x22, x286000, x286001 => if x22 < x21 then (if 0 ≤ x22 then (if x22 < (x20.length : Int) then ((impl_InodeAt.f k x286000 x286001 x8).bind fun bt291 => (if bt291.2.2.2.2.2.2 = true then (if bt291.2.1 = 2 then ((impl_EntOf.f k bt291.1 bt291.2.1 bt291.2.2.1 bt291.2.2.2.1 bt291.2.2.2.2.1 bt291.2.2.2.2.2.1 (rdOf ByteArray.empty x20 x22)).bind fun t305 => (if t305 = 0 then (some (0, 2)) else (impl_Walk.l0 k t305 x20 x21 (wrap64 (x22 + 1)) x286000 x286001))) else (some (0, 3))) else (some (0, 2)))) else (none)) else (none)) else (some (x8, 0))
def impl_Walk.f (k : Nat) (l0_0 : List (S51)) (a0_1 : Int) (a1 : ByteArray) : Option (Int × Int) := (impl_SplitPath.f k a1).bind fun bt286 => (if bt286.2 = true then (impl_Walk.l0 k 1 bt286.1 (bt286.1.length : Int) 0 l0_0 a0_1) else (some (0, 1)))
set_option maxHeartbeats 8000000 in
set_option maxRecDepth 100000 in
theorem impl_Walk.calls (k : Nat) (A0_0 : Option Addr) (c0_0 : Nat) (l0_0 : List (S51)) (a0_1 : Int) (a1 : ByteArray) (r1 : Int) (r2 : Int) (w : World) (hr0_0 : Kd.C k51 w A0_0 l0_0.length l0_0) (hc0_0 : l0_0.length ≤ c0_0) (h : impl_Walk.f k l0_0 a0_1 a1 = some (r1, r2)) (hG : GOk w := by exact gk_ oB (by first | (with_reducible assumption) | assumption)) :
  Calls Tryz.prog 31 #[.agg #[.slice A0_0 l0_0.length c0_0, .int .i64 a0_1], .string a1] w fun e w' => e = .returned (.tuple #[.int .i64 r1, .int .i64 r2]) ∧ Below w.heap.size w w' := by
 have HG := Aside0.mk hG
 clear hG
 have hu26 := Tryz.underlying26
 have hu51 := Tryz.underlying51
 have HR0_0 := Aside0.mk hr0_0
 have HC0_0 := Aside0.mk hc0_0
 clear hr0_0 hc0_0
 have HB := Aside0.mk (Below.refl w.heap.size w)
 unfold impl_Walk.f at h
 have H := h
 clear h
 replace H := bA H
 obtain ⟨⟨t286, t287⟩, A3, H⟩ := H
 try dsimp only at H
 replace H := itB H
 rcases H with ⟨rfl, H⟩ | ⟨rfl, H⟩
 ·have H' := Aside0.mk H
  clear H
  go_enter Tryz.func31, Tryz.ntmps31
  go_wp2_with (first | ((with_reducible refine gate_dst (N := 2) rfl ?_); refine bx_ 2 #[.slice A0_0 l0_0.length c0_0, .int .i64 a0_1] 26 ?_; intro gb285 hg w5 hbox hb; have BK285 := Aside0.mk (hbox); have GW285 := gs_ hg; replace HB := Aside0.mk (below_step oB hb); clear hb hbox hg) | ((with_reducible refine gate_callee (f := 16) rfl ?_); refine gl_ 15 Tryz.func16 (impl_SplitPath.calls k a1 t286 true _ A3.out) ?_; rintro e w6 ⟨v288, rfl, ho0, hb⟩; refine ⟨_, rfl, ?_⟩; have HO289 := Aside0.mk (Kd.Q_lower ho0 (below_size oB)); replace BK285 := kb_ BK285 hb; replace HB := Aside0.mk (below_step oB hb); obtain ⟨Ao7, co7, eo7, _⟩ := Kd.Q_slice HO289.out; subst eo7))
  go_loopg [8, 22] k (fun kq v8 v22 w' => ∃ (x8_1 : Int) (x22_1 : Int), v8 = .int .i64 x8_1 ∧ v22 = .int .i64 x22_1 ∧ Aside0 (impl_Walk.l0 kq x8_1 t286 (t286.length : Int) x22_1 l0_0 a0_1 = some (r1, r2)) ∧ Aside0 (kq ≤ k) ∧ Aside0 (Kd.Q Kd.string 9 w' w.heap.size (fun _ => True) (.slice Ao7 t286.length co7) t286) ∧ Aside0 (w'.heap[gb285]? = some (.cells #[(.slice A0_0 l0_0.length c0_0), .int .i64 a0_1] 26 (0, 0))) ∧ Aside0 (Below w.heap.size w w'))
  case atStart => exact ⟨(1), (0), oS, oS, H', ⟨Nat.le_refl _⟩, ⟨by (with_reducible repeat (first | apply Kd.Q_alloc | apply Kd.Q_drewN | apply Kd.Q_drew)); exact HO289.out⟩, ⟨oF BK285⟩, ⟨oB⟩⟩
  case round =>
   clear H'
   obtain ⟨x8_1, x22_1, rfl, rfl, HA, HK1, HO_20, BK285, HB⟩ := hrel
   cases gk with
   | zero => exact absurd HA.out (by simp [impl_Walk.l0])
   | succ k1 =>
    have H := HA.out
    clear HA
    simp only [impl_Walk.l0] at H
    replace H := itD H
    rcases H with ⟨c8b0, H⟩ | ⟨c8b0, H⟩
    ·replace H := itD H
     rcases H with ⟨c9b0, H⟩ | ⟨c9b0, H⟩
     ·replace H := itD H
      rcases H with ⟨c10b0, H⟩ | ⟨c10b0, H⟩
      ·replace H := bA H
       obtain ⟨⟨t291, t292, t293, t294, t297, t300, t303⟩, A11, H⟩ := H
       try dsimp only at H
       replace H := itB H
       rcases H with ⟨rfl, H⟩ | ⟨rfl, H⟩
       ·by_cases c13 : t292 = 2
        ·rw [if_pos c13] at H
         have c13b0 : (t292 == 2) = true := beq_iff_eq.mpr c13
         have c13b1 : (t292 != 2) = false := bne_eq_false_iff_eq.mpr c13
         clear c13
         replace H := bA H
         obtain ⟨t305, A14, H⟩ := H
         try dsimp only at H
         by_cases c15 : t305 = 0
         ·rw [if_pos c15] at H
          have c15b0 : (t305 == 0) = true := beq_iff_eq.mpr c15
          have c15b1 : (t305 != 0) = false := bne_eq_false_iff_eq.mpr c15
          clear c15
          simp only [Option.some.injEq, Prod.mk.injEq] at H
          obtain ⟨rfl, rfl⟩ := H
          have p290 : (0 ≤ (x22_1 : Int)) = True := oT
          have q290 : (x22_1 < (t286.length : Int)) = True := oT
          obtain ⟨ad290, e290, hx290_0⟩ := Kd.at_string (Kd.Q_reads' HO_20.out).2.2 x22_1 oa oa
          cases e290
          obtain ⟨⟨_, _⟩, _, _⟩ := z2 BK285
          go_wp2_with (first | ((with_reducible refine gate_callee (f := 42) rfl ?_); refine gl_ 29 Tryz.func42 (impl_InodeAt.calls k1 _ _ l0_0 a0_1 x8_1 t291 t292 t293 t294 t297 t300 true _ (kC HR0_0) HC0_0.out A11.out) ?_; rintro e w17 ⟨v295, v298, v301, rfl, ho0, ho1, ho2, hb⟩; refine ⟨_, rfl, ?_⟩; have HO296 := Aside0.mk (Kd.R_lower ho0 (below_size oB)); have HO299 := Aside0.mk (Kd.R_lower ho1 (below_size oB)); have HO302 := Aside0.mk (Kd.R_lower ho2 (below_size oB)); replace HO_20 := beQ0 HO_20 hb; replace BK285 := kb_ BK285 hb; replace HB := Aside0.mk (below_step oB hb); (try clear ho1); (try clear ho2)) | ((with_reducible refine gate_dst (N := 11) rfl ?_); refine bx_ 11 #[.int .i64 0, .int .i64 0, .int .i64 0, .slice none 0 0, .slice none 0 0, .slice none 0 0] 51 ?_; intro gb304 hg w18 hbox hb; have BK304 := Aside0.mk (hbox); have GW304 := gs_ hg; have NB285_304 := nl_ hg BK285; have NB304_285 := nr_ hg BK285; replace HO_20 := beQ0 HO_20 hb; replace HO296 := kr_ HO296 hb; replace HO299 := kr_ HO299 hb; replace HO302 := kr_ HO302 hb; replace BK285 := kb_ BK285 hb; replace HB := Aside0.mk (below_step oB hb); clear hb hbox hg; have hnb19 := NB304_285.out; have hnc19 := NB285_304.out; obtain ⟨⟨_, _, _, _, _, _⟩, _, _, _, _, _, _⟩ := z6 BK304; obtain ⟨Ao21, co21, eo21⟩ := Kd.R_slice HO296.out; subst eo21; obtain ⟨Ao22, co22, eo22⟩ := Kd.R_slice HO299.out; subst eo22; obtain ⟨Ao23, co23, eo23⟩ := Kd.R_slice HO302.out; subst eo23) | ((with_reducible refine gate_callee (f := 58) rfl ?_); refine gl_ 41 Tryz.func58 (impl_EntOf.calls k1 t291 t292 t293 _ _ t294 _ _ t297 _ _ t300 (rdOf ByteArray.empty t286 x22_1) t305 _ (rcR1 HO296 BK304) (ko HO296) (rcR1 HO299 BK304) (ko HO299) (rcR1 HO302 BK304) (ko HO302) A14.out) ?_; rintro e w24 ⟨rfl, hb⟩; refine ⟨_, rfl, ?_⟩; replace HO_20 := beQ1 HO_20 BK304 hb; replace HO296 := beR1 HO296 BK304 hb; replace HO299 := beR1 HO299 BK304 hb; replace HO302 := beR1 HO302 BK304 hb; replace BK285 := kb_ BK285 hb; replace BK304 := kp_ #[.int .i64 t291, .int .i64 t292, .int .i64 t293, .slice Ao21 t294.length co21, .slice Ao22 t297.length co22, .slice Ao23 t300.length co23] BK304 hb; replace HB := Aside0.mk (below_step oB hb); (try clear hk)))
          go_ret2
          exact ⟨oE, oB⟩
         ·rw [if_neg c15] at H
          have c15b0 : (t305 == 0) = false := beq_eq_false_iff_ne.mpr c15
          have c15b1 : (t305 != 0) = true := bne_iff_ne.mpr c15
          have H' := Aside0.mk H
          clear H
          have p290 : (0 ≤ (x22_1 : Int)) = True := oT
          have q290 : (x22_1 < (t286.length : Int)) = True := oT
          obtain ⟨ad290, e290, hx290_0⟩ := Kd.at_string (Kd.Q_reads' HO_20.out).2.2 x22_1 oa oa
          cases e290
          obtain ⟨⟨_, _⟩, _, _⟩ := z2 BK285
          go_wp2_with (first | ((with_reducible refine gate_callee (f := 42) rfl ?_); refine gl_ 29 Tryz.func42 (impl_InodeAt.calls k1 _ _ l0_0 a0_1 x8_1 t291 t292 t293 t294 t297 t300 true _ (kC HR0_0) HC0_0.out A11.out) ?_; rintro e w26 ⟨v295, v298, v301, rfl, ho0, ho1, ho2, hb⟩; refine ⟨_, rfl, ?_⟩; have HO296 := Aside0.mk (Kd.R_lower ho0 (below_size oB)); have HO299 := Aside0.mk (Kd.R_lower ho1 (below_size oB)); have HO302 := Aside0.mk (Kd.R_lower ho2 (below_size oB)); replace HO_20 := beQ0 HO_20 hb; replace BK285 := kb_ BK285 hb; replace HB := Aside0.mk (below_step oB hb); (try clear ho1); (try clear ho2)) | ((with_reducible refine gate_dst (N := 11) rfl ?_); refine bx_ 11 #[.int .i64 0, .int .i64 0, .int .i64 0, .slice none 0 0, .slice none 0 0, .slice none 0 0] 51 ?_; intro gb304 hg w27 hbox hb; have BK304 := Aside0.mk (hbox); have GW304 := gs_ hg; have NB285_304 := nl_ hg BK285; have NB304_285 := nr_ hg BK285; replace HO_20 := beQ0 HO_20 hb; replace HO296 := kr_ HO296 hb; replace HO299 := kr_ HO299 hb; replace HO302 := kr_ HO302 hb; replace BK285 := kb_ BK285 hb; replace HB := Aside0.mk (below_step oB hb); clear hb hbox hg; have hnb28 := NB304_285.out; have hnc28 := NB285_304.out; obtain ⟨⟨_, _, _, _, _, _⟩, _, _, _, _, _, _⟩ := z6 BK304; obtain ⟨Ao30, co30, eo30⟩ := Kd.R_slice HO296.out; subst eo30; obtain ⟨Ao31, co31, eo31⟩ := Kd.R_slice HO299.out; subst eo31; obtain ⟨Ao32, co32, eo32⟩ := Kd.R_slice HO302.out; subst eo32) | ((with_reducible refine gate_callee (f := 58) rfl ?_); refine gl_ 41 Tryz.func58 (impl_EntOf.calls k1 t291 t292 t293 _ _ t294 _ _ t297 _ _ t300 (rdOf ByteArray.empty t286 x22_1) t305 _ (rcR1 HO296 BK304) (ko HO296) (rcR1 HO299 BK304) (ko HO299) (rcR1 HO302 BK304) (ko HO302) A14.out) ?_; rintro e w33 ⟨rfl, hb⟩; refine ⟨_, rfl, ?_⟩; replace HO_20 := beQ1 HO_20 BK304 hb; replace HO296 := beR1 HO296 BK304 hb; replace HO299 := beR1 HO299 BK304 hb; replace HO302 := beR1 HO302 BK304 hb; replace BK285 := kb_ BK285 hb; replace BK304 := kp_ #[.int .i64 t291, .int .i64 t292, .int .i64 t293, .slice Ao30 t294.length co30, .slice Ao31 t297.length co31, .slice Ao32 t300.length co32] BK304 hb; replace HB := Aside0.mk (below_step oB hb); (try clear hk)))
          go_roundg k1
          case measure => have := HK1.out; omega
          case rel => exact ⟨(t305), (wrap64 (x22_1 + 1)), oS, oS, H', ⟨by have := HK1.out; omega⟩, ⟨by (with_reducible repeat (first | apply Kd.Q_alloc | apply Kd.Q_drewN | apply Kd.Q_drew)); exact HO_20.out⟩, ⟨oF BK285⟩, ⟨oB⟩⟩
        ·rw [if_neg c13] at H
         have c13b0 : (t292 == 2) = false := beq_eq_false_iff_ne.mpr c13
         have c13b1 : (t292 != 2) = true := bne_iff_ne.mpr c13
         simp only [Option.some.injEq, Prod.mk.injEq] at H
         obtain ⟨rfl, rfl⟩ := H
         have p290 : (0 ≤ (x22_1 : Int)) = True := oT
         have q290 : (x22_1 < (t286.length : Int)) = True := oT
         obtain ⟨ad290, e290, hx290_0⟩ := Kd.at_string (Kd.Q_reads' HO_20.out).2.2 x22_1 oa oa
         cases e290
         obtain ⟨⟨_, _⟩, _, _⟩ := z2 BK285
         go_wp2_with (first | ((with_reducible refine gate_callee (f := 42) rfl ?_); refine gl_ 29 Tryz.func42 (impl_InodeAt.calls k1 _ _ l0_0 a0_1 x8_1 t291 t292 t293 t294 t297 t300 true _ (kC HR0_0) HC0_0.out A11.out) ?_; rintro e w35 ⟨v295, v298, v301, rfl, ho0, ho1, ho2, hb⟩; refine ⟨_, rfl, ?_⟩; have HO296 := Aside0.mk (Kd.R_lower ho0 (below_size oB)); have HO299 := Aside0.mk (Kd.R_lower ho1 (below_size oB)); have HO302 := Aside0.mk (Kd.R_lower ho2 (below_size oB)); replace HO_20 := beQ0 HO_20 hb; replace BK285 := kb_ BK285 hb; replace HB := Aside0.mk (below_step oB hb); (try clear ho1); (try clear ho2)) | ((with_reducible refine gate_dst (N := 11) rfl ?_); refine bx_ 11 #[.int .i64 0, .int .i64 0, .int .i64 0, .slice none 0 0, .slice none 0 0, .slice none 0 0] 51 ?_; intro gb304 hg w36 hbox hb; have BK304 := Aside0.mk (hbox); have GW304 := gs_ hg; have NB285_304 := nl_ hg BK285; have NB304_285 := nr_ hg BK285; replace HO_20 := beQ0 HO_20 hb; replace HO296 := kr_ HO296 hb; replace HO299 := kr_ HO299 hb; replace HO302 := kr_ HO302 hb; replace BK285 := kb_ BK285 hb; replace HB := Aside0.mk (below_step oB hb); clear hb hbox hg; have hnb37 := NB304_285.out; have hnc37 := NB285_304.out; obtain ⟨⟨_, _, _, _, _, _⟩, _, _, _, _, _, _⟩ := z6 BK304; obtain ⟨Ao39, co39, eo39⟩ := Kd.R_slice HO296.out; subst eo39; obtain ⟨Ao40, co40, eo40⟩ := Kd.R_slice HO299.out; subst eo40; obtain ⟨Ao41, co41, eo41⟩ := Kd.R_slice HO302.out; subst eo41))
         go_ret2
         exact ⟨oE, oB⟩
       ·simp only [Option.some.injEq, Prod.mk.injEq] at H
        obtain ⟨rfl, rfl⟩ := H
        have p290 : (0 ≤ (x22_1 : Int)) = True := oT
        have q290 : (x22_1 < (t286.length : Int)) = True := oT
        obtain ⟨ad290, e290, hx290_0⟩ := Kd.at_string (Kd.Q_reads' HO_20.out).2.2 x22_1 oa oa
        cases e290
        obtain ⟨⟨_, _⟩, _, _⟩ := z2 BK285
        go_wp2_with (first | ((with_reducible refine gate_callee (f := 42) rfl ?_); refine gl_ 29 Tryz.func42 (impl_InodeAt.calls k1 _ _ l0_0 a0_1 x8_1 t291 t292 t293 t294 t297 t300 false _ (kC HR0_0) HC0_0.out A11.out) ?_; rintro e w43 ⟨v295, v298, v301, rfl, ho0, ho1, ho2, hb⟩; refine ⟨_, rfl, ?_⟩; have HO296 := Aside0.mk (Kd.R_lower ho0 (below_size oB)); have HO299 := Aside0.mk (Kd.R_lower ho1 (below_size oB)); have HO302 := Aside0.mk (Kd.R_lower ho2 (below_size oB)); replace HO_20 := beQ0 HO_20 hb; replace BK285 := kb_ BK285 hb; replace HB := Aside0.mk (below_step oB hb); (try clear ho1); (try clear ho2)) | ((with_reducible refine gate_dst (N := 11) rfl ?_); refine bx_ 11 #[.int .i64 0, .int .i64 0, .int .i64 0, .slice none 0 0, .slice none 0 0, .slice none 0 0] 51 ?_; intro gb304 hg w44 hbox hb; have BK304 := Aside0.mk (hbox); have GW304 := gs_ hg; have NB285_304 := nl_ hg BK285; have NB304_285 := nr_ hg BK285; replace HO_20 := beQ0 HO_20 hb; replace HO296 := kr_ HO296 hb; replace HO299 := kr_ HO299 hb; replace HO302 := kr_ HO302 hb; replace BK285 := kb_ BK285 hb; replace HB := Aside0.mk (below_step oB hb); clear hb hbox hg; have hnb45 := NB304_285.out; have hnc45 := NB285_304.out; obtain ⟨⟨_, _, _, _, _, _⟩, _, _, _, _, _, _⟩ := z6 BK304; obtain ⟨Ao47, co47, eo47⟩ := Kd.R_slice HO296.out; subst eo47; obtain ⟨Ao48, co48, eo48⟩ := Kd.R_slice HO299.out; subst eo48; obtain ⟨Ao49, co49, eo49⟩ := Kd.R_slice HO302.out; subst eo49))
        go_ret2
        exact ⟨oE, oB⟩
      ·cases H
     ·cases H
    ·simp only [Option.some.injEq, Prod.mk.injEq] at H
     obtain ⟨rfl, rfl⟩ := H
     go_wp2
     go_ret2
     exact ⟨oE, oB⟩
 ·simp only [Option.some.injEq, Prod.mk.injEq] at H
  obtain ⟨rfl, rfl⟩ := H
  go_enter Tryz.func31, Tryz.ntmps31
  go_wp2_with (first | ((with_reducible refine gate_dst (N := 2) rfl ?_); refine bx_ 2 #[.slice A0_0 l0_0.length c0_0, .int .i64 a0_1] 26 ?_; intro gb285 hg w50 hbox hb; have BK285 := Aside0.mk (hbox); have GW285 := gs_ hg; replace HB := Aside0.mk (below_step oB hb); clear hb hbox hg) | ((with_reducible refine gate_callee (f := 16) rfl ?_); refine gl_ 15 Tryz.func16 (impl_SplitPath.calls k a1 t286 false _ A3.out) ?_; rintro e w51 ⟨v288, rfl, ho0, hb⟩; refine ⟨_, rfl, ?_⟩; have HO289 := Aside0.mk (Kd.Q_lower ho0 (below_size oB)); replace BK285 := kb_ BK285 hb; replace HB := Aside0.mk (below_step oB hb)))
  go_ret2
  exact ⟨oE, oB⟩

/-! ### impl_pathsBelow: function 43 -/
mutual
def impl_pathsBelow.l0 : Nat → ByteArray → List ByteArray → List (S65) → Int → Int → List (S51) → Int → Option (List ByteArray)
 | 0, _, _, _, _, _, _, _ => none
 | k + 1, x2, x7, x15, x16, x17, x408000, x408001 => if x17 < x16 then (if 0 ≤ x17 then (if x17 < (x15.length : Int) then (if x2.size + 1 ≤ 9223372036854775807 then (if (x2 ++ (⟨#[47]⟩ : ByteArray)).size + ((rd_T65 x15 x17).f0).size ≤ 9223372036854775807 then (if x7.length < 8796093022208 then ((some (x7 ++ [(x2 ++ (⟨#[47]⟩ : ByteArray)) ++ ((rd_T65 x15 x17).f0)] : List ByteArray)).bind fun y414 => ((impl_InodeAt.f k x408000 x408001 ((rd_T65 x15 x17).f1)).bind fun bt417 => ((impl_pathsBelow.f k x408000 x408001 bt417.1 bt417.2.1 bt417.2.2.1 bt417.2.2.2.1 bt417.2.2.2.2.1 bt417.2.2.2.2.2.1 ((x2 ++ (⟨#[47]⟩ : ByteArray)) ++ ((rd_T65 x15 x17).f0))).bind fun t431 => (if y414.length + t431.length < 8796093022208 then (impl_pathsBelow.l0 k x2 (y414 ++ t431) x15 x16 (wrap64 (x17 + 1)) x408000 x408001) else (none))))) else (none)) else (none)) else (none)) else (none)) else (none)) else (some x7)
def impl_pathsBelow.f : Nat → List (S51) → Int → Int → Int → Int → List Int → List (S65) → List (S71) → ByteArray → Option (List ByteArray)
 | 0, _, _, _, _, _, _, _, _, _ => none
 | k + 1, l0_0, a0_1, a1_0, a1_1, a1_2, l1_3, l1_4, l1_5, a2 => impl_pathsBelow.l0 k a2 (([] : List ByteArray)) l1_4 (l1_4.length : Int) 0 l0_0 a0_1
end
set_option maxHeartbeats 8000000 in
set_option maxRecDepth 100000 in
theorem impl_pathsBelow.calls (k : Nat) : ∀ (A0_0 : Option Addr) (c0_0 : Nat) (l0_0 : List (S51)) (a0_1 : Int) (a1_0 : Int) (a1_1 : Int) (a1_2 : Int) (A1_3 : Option Addr) (c1_3 : Nat) (l1_3 : List Int) (A1_4 : Option Addr) (c1_4 : Nat) (l1_4 : List (S65)) (A1_5 : Option Addr) (c1_5 : Nat) (l1_5 : List (S71)) (a2 : ByteArray) (r : List ByteArray) (w : World) (hr0_0 : Kd.C k51 w A0_0 l0_0.length l0_0) (hc0_0 : l0_0.length ≤ c0_0) (hr1_3 : Kd.C (Kd.int .u8) w A1_3 l1_3.length l1_3) (hc1_3 : l1_3.length ≤ c1_3) (hr1_4 : Kd.C k65 w A1_4 l1_4.length l1_4) (hc1_4 : l1_4.length ≤ c1_4) (hr1_5 : Kd.C k71 w A1_5 l1_5.length l1_5) (hc1_5 : l1_5.length ≤ c1_5) (h : impl_pathsBelow.f k l0_0 a0_1 a1_0 a1_1 a1_2 l1_3 l1_4 l1_5 a2 = some r),
  Calls Tryz.prog 43 #[.agg #[.slice A0_0 l0_0.length c0_0, .int .i64 a0_1], .agg #[.int .i64 a1_0, .int .i64 a1_1, .int .i64 a1_2, .slice A1_3 l1_3.length c1_3, .slice A1_4 l1_4.length c1_4, .slice A1_5 l1_5.length c1_5], .string a2] w fun e w' => ∃ v0_ : Value, e = .returned (v0_) ∧ Kd.R Kd.string 9 w' w.heap.size (fun _ => True) v0_ r ∧ Below w.heap.size w w' := by
 induction k using Nat.strongRecOn with
 | _ k ih =>
 intro A0_0 c0_0 l0_0 a0_1 a1_0 a1_1 a1_2 A1_3 c1_3 l1_3 A1_4 c1_4 l1_4 A1_5 c1_5 l1_5 a2 r w hr0_0 hc0_0 hr1_3 hc1_3 hr1_4 hc1_4 hr1_5 hc1_5 h
 cases k with
 | zero => exact absurd h (by simp [impl_pathsBelow.f])
 | succ k =>
 simp only [impl_pathsBelow.f] at h
 have hu26 := Tryz.underlying26
 have hu51 := Tryz.underlying51
 have hu65 := Tryz.underlying65
 have HR0_0 := Aside0.mk hr0_0
 have HC0_0 := Aside0.mk hc0_0
 clear hr0_0 hc0_0
 have HR1_3 := Aside0.mk hr1_3
 have HC1_3 := Aside0.mk hc1_3
 clear hr1_3 hc1_3
 have HR1_4 := Aside0.mk hr1_4
 have HC1_4 := Aside0.mk hc1_4
 clear hr1_4 hc1_4
 have HR1_5 := Aside0.mk hr1_5
 have HC1_5 := Aside0.mk hc1_5
 clear hr1_5 hc1_5
 have HB := Aside0.mk (Below.refl w.heap.size w)
 have H : (impl_pathsBelow.l0 k a2 (([] : List ByteArray)) l1_4 (l1_4.length : Int) 0 l0_0 a0_1) = some r := h
 clear h
 obtain ⟨y409, hy409⟩ : ∃ y_ : List ByteArray, y_ = (([] : List ByteArray)) := ⟨_, rfl⟩
 replace H : (impl_pathsBelow.l0 k a2 y409 l1_4 (l1_4.length : Int) 0 l0_0 a0_1) = some r := by first | (rw [hy409]; with_reducible exact H) | (have H2_ := (Option.bind_some _ _).symm.trans H; rw [hy409]; with_reducible exact H2_) | (have H2_ := (Option.bind_some _ _).symm.trans H; with_reducible exact H2_) | with_reducible exact H | (rw [hy409]; exact H) | exact H
 have Ny409 := Aside0.mk hy409
 clear hy409
 have H' := Aside0.mk H
 clear H
 go_enter Tryz.func43, Tryz.ntmps43
 go_wp2_with (first | ((with_reducible refine gate_dst (N := 3) rfl ?_); refine bx_ 3 #[.slice A0_0 l0_0.length c0_0, .int .i64 a0_1] 26 ?_; intro gb407 hg w4 hbox hb; have BK407 := Aside0.mk (hbox); have GW407 := gs_ hg; replace HB := Aside0.mk (below_step oB hb); clear hb hbox hg) | ((with_reducible refine gate_dst (N := 4) rfl ?_); refine bx_ 4 #[.int .i64 a1_0, .int .i64 a1_1, .int .i64 a1_2, .slice A1_3 l1_3.length c1_3, .slice A1_4 l1_4.length c1_4, .slice A1_5 l1_5.length c1_5] 51 ?_; intro gb408 hg w5 hbox hb; have BK408 := Aside0.mk (hbox); have GW408 := gs_ hg; have NB407_408 := nl_ hg BK407; have NB408_407 := nr_ hg BK407; replace BK407 := kb_ BK407 hb; replace HB := Aside0.mk (below_step oB hb); clear hb hbox hg) | ((with_reducible refine gate_dst (N := 13) rfl ?_); refine Kd.R_lit Kd.string _ 9 ?hg (N := 13) ?hd (xs := ([] : List ByteArray)) (inner := []) (ok := fun _ => True) (okp := fun _ => True) ?hr ?hp (fun _ hk => hk) trivial (Below.refl _ _) (Nat.le_refl _) (by simp) ?_; (case hd => rfl); (case hg => rfl); (case hr => first | (go_simp; done) | (go_simp; rfl)); (case hp => exact (Reps.none _ _)); intro v410 w6 ho7 hb hg_ hnew_; clear hg_ hnew_; (first | rw [← Ny409.out] at ho7 | (simp only [Int.reduceToNat] at ho7; rw [← Ny409.out] at ho7)); have HO411 := Aside0.mk (Kd.R_lower ho7 (below_size oB)); replace BK407 := kb_ BK407 hb; replace BK408 := kb_ BK408 hb; replace HB := Aside0.mk (below_step oB hb); clear hb ho7; have hnb8 := NB408_407.out; have hnc8 := NB407_408.out; obtain ⟨⟨_, _, _, _, _, _⟩, _, _, _, _, _, _⟩ := z6 BK408))
 go_loopg [7, 17] k (fun kq v7 v17 w' => ∃ (x7_1 : List ByteArray) (x17_1 : Int), v17 = .int .i64 x17_1 ∧ Aside0 (impl_pathsBelow.l0 kq a2 x7_1 l1_4 (l1_4.length : Int) x17_1 l0_0 a0_1 = some r) ∧ Aside0 (kq ≤ k) ∧ Aside0 (Kd.R Kd.string 9 w' w.heap.size (fun _ => True) v7 x7_1) ∧ Aside0 (w'.heap[gb407]? = some (.cells #[(.slice A0_0 l0_0.length c0_0), .int .i64 a0_1] 26 (0, 0))) ∧ Aside0 (w'.heap[gb408]? = some (.cells #[.int .i64 a1_0, .int .i64 a1_1, .int .i64 a1_2, (.slice A1_3 l1_3.length c1_3), (.slice A1_4 l1_4.length c1_4), (.slice A1_5 l1_5.length c1_5)] 51 (0, 0))) ∧ Aside0 (Below w.heap.size w w'))
 case atStart => exact ⟨(y409), (0), oS, H', ⟨Nat.le_refl _⟩, ⟨oR HO411⟩, ⟨oF BK407⟩, ⟨oF BK408⟩, ⟨oB⟩⟩
 case round =>
  clear H'
  obtain ⟨x7_1, x17_1, rfl, HA, HK1, HO_7, BK407, BK408, HB⟩ := hrel
  cases gk with
  | zero => exact absurd HA.out (by simp [impl_pathsBelow.l0])
  | succ k1 =>
   have H := HA.out
   clear HA
   simp only [impl_pathsBelow.l0] at H
   replace H := itD H
   rcases H with ⟨c10b0, H⟩ | ⟨c10b0, H⟩
   ·replace H := itD H
    rcases H with ⟨c11b0, H⟩ | ⟨c11b0, H⟩
    ·replace H := itD H
     rcases H with ⟨c12b0, H⟩ | ⟨c12b0, H⟩
     ·by_cases c13 : a2.size + 1 ≤ 9223372036854775807
      ·rw [if_pos c13] at H
       have c13b0 := eq_true c13
       have c13b1 : decide (a2.size + 1 ≤ 9223372036854775807) = true := decide_eq_true c13
       try have c13b2 : (9223372036854775807 < a2.size + 1) = False := eq_false (Nat.not_lt.2 c13)
       by_cases c14 : (a2 ++ (⟨#[47]⟩ : ByteArray)).size + ((rd_T65 l1_4 x17_1).f0).size ≤ 9223372036854775807
       ·rw [if_pos c14] at H
        have c14b0 := eq_true c14
        have c14b1 : decide ((a2 ++ (⟨#[47]⟩ : ByteArray)).size + ((rd_T65 l1_4 x17_1).f0).size ≤ 9223372036854775807) = true := decide_eq_true c14
        try have c14b2 : (9223372036854775807 < (a2 ++ (⟨#[47]⟩ : ByteArray)).size + ((rd_T65 l1_4 x17_1).f0).size) = False := eq_false (Nat.not_lt.2 c14)
        by_cases c15 : x7_1.length < 8796093022208
        ·rw [if_pos c15] at H
         have LMc15 := Aside0.mk c15
         clear c15
         obtain ⟨y414, hy414⟩ : ∃ y_ : List ByteArray, y_ = (x7_1 ++ [(a2 ++ (⟨#[47]⟩ : ByteArray)) ++ ((rd_T65 l1_4 x17_1).f0)]) := ⟨_, rfl⟩
         replace H : ((impl_InodeAt.f k1 l0_0 a0_1 ((rd_T65 l1_4 x17_1).f1)).bind fun bt417 => ((impl_pathsBelow.f k1 l0_0 a0_1 bt417.1 bt417.2.1 bt417.2.2.1 bt417.2.2.2.1 bt417.2.2.2.2.1 bt417.2.2.2.2.2.1 ((a2 ++ (⟨#[47]⟩ : ByteArray)) ++ ((rd_T65 l1_4 x17_1).f0))).bind fun t431 => (if y414.length + t431.length < 8796093022208 then (impl_pathsBelow.l0 k1 a2 (y414 ++ t431) l1_4 (l1_4.length : Int) (wrap64 (x17_1 + 1)) l0_0 a0_1) else (none)))) = some r := by first | (rw [hy414]; with_reducible exact H) | (have H2_ := (Option.bind_some _ _).symm.trans H; rw [hy414]; with_reducible exact H2_) | (have H2_ := (Option.bind_some _ _).symm.trans H; with_reducible exact H2_) | with_reducible exact H | (rw [hy414]; exact H) | exact H
         have Ny414 := Aside0.mk hy414
         clear hy414
         replace H := bA H
         obtain ⟨⟨t417, t418, t419, t420, t423, t426, t429⟩, A16, H⟩ := H
         try dsimp only at H
         replace H := bA H
         obtain ⟨t431, A17, H⟩ := H
         try dsimp only at H
         by_cases c18 : y414.length + t431.length < 8796093022208
         ·rw [if_pos c18] at H
          have LMc18 := Aside0.mk c18
          clear c18
          obtain ⟨y434, hy434⟩ : ∃ y_ : List ByteArray, y_ = (y414 ++ t431) := ⟨_, rfl⟩
          replace H : (impl_pathsBelow.l0 k1 a2 y434 l1_4 (l1_4.length : Int) (wrap64 (x17_1 + 1)) l0_0 a0_1) = some r := by first | (rw [hy434]; with_reducible exact H) | (have H2_ := (Option.bind_some _ _).symm.trans H; rw [hy434]; with_reducible exact H2_) | (have H2_ := (Option.bind_some _ _).symm.trans H; with_reducible exact H2_) | with_reducible exact H | (rw [hy434]; exact H) | exact H
          have Ny434 := Aside0.mk hy434
          clear hy434
          have H' := Aside0.mk H
          clear H
          have p412 : (0 ≤ (x17_1 : Int)) = True := oT
          have q412 : (x17_1 < (l1_4.length : Int)) = True := oT
          obtain ⟨ad412, e412, hx412_0, hx412_1⟩ := at_T65 HR1_4.out x17_1 oa oa
          cases e412
          replace hx412_0 := cB HB hx412_0
          replace hx412_1 := cB HB hx412_1
          go_wp2_with (first | ((with_reducible refine gate_dst (N := 9) rfl ?_); refine bx_ 9 #[.string (⟨#[]⟩ : ByteArray), .int .i64 0] 65 ?_; intro gb413 hg w19 hbox hb; have BK413 := Aside0.mk (hbox); have GW413 := gs_ hg; have NB407_413 := nl_ hg BK407; have NB413_407 := nr_ hg BK407; have NB408_413 := nl_ hg BK408; have NB413_408 := nr_ hg BK408; replace HO_7 := kr_ HO_7 hb; replace BK407 := kb_ BK407 hb; replace BK408 := kb_ BK408 hb; replace HB := Aside0.mk (below_step oB hb); clear hb hbox hg; have hnb20 := NB413_407.out; have hnc20 := NB407_413.out; have hnb21 := NB413_408.out; have hnc21 := NB408_413.out; obtain ⟨⟨_, _⟩, _, _⟩ := z2 BK413) | ((with_reducible refine gate_builtin (b := .append) (xs := #[.tmp 26, .tmp 28]) rfl ?_); at_builtin; refine Kd.R_append Kd.string (w0 := w) w.heap.size rfl (.tmp 26) (.tmp 28) 31 9 (.string ⟨#[]⟩) 16 rfl Tryz.underlying31 info9 rfl (by decide) (by omega) u7 x7_1 ((a2 ++ (⟨#[47]⟩ : ByteArray)) ++ ((rd_T65 l1_4 x17_1).f0)) [.string ((a2 ++ (⟨#[47]⟩ : ByteArray)) ++ ((rd_T65 l1_4 x17_1).f0))] (fun _ => True) (fun _ => False) rfl (by first | (go_simp; done) | (go_simp; rfl)) ?aP (fun _ hk => hk.elim) ?aF ?aO ?aB ?aS ?aL ?_; (case aP => exact rfl); (case aB => exact oB); (case aF => exact (fun _ _ => trivial)); (case aO => exact (by (with_reducible repeat (first | apply Kd.R_alloc | apply Kd.R_drewN | apply Kd.R_drew)); exact Kd.R_mono (Kd.R_far (p := ⟨gb413, 1, none⟩) (Kd.R_far (p := ⟨gb413, 0, none⟩) (Kd.R_types HO_7.out BK413.out (by decide)) (fun _ hk => hk.2) (.string ((rd_T65 l1_4 x17_1).f0))) (fun _ hk => hk.2) (.int .i64 ((rd_T65 l1_4 x17_1).f1))) (fun _ hk => trivial))); (case aS => exact (below_size oB)); (case aL => have := LMc15.out; omega); intro v415 w23 ho hb hg hat; rw [← Ny414.out] at ho; have HO416 := Aside0.mk (ho); replace BK407 := Aside0.mk (blk_grown (g := gb407) (o := .cells #[.slice A0_0 l0_0.length c0_0, .int .i64 a0_1] 26 (0, 0)) (oF BK407) hg (Kd.R_ne HO_7.out BK407.out (by decide))); replace BK408 := Aside0.mk (blk_grown (g := gb408) (o := .cells #[.int .i64 a1_0, .int .i64 a1_1, .int .i64 a1_2, .slice A1_3 l1_3.length c1_3, .slice (some ad412) l1_4.length c1_4, .slice A1_5 l1_5.length c1_5] 51 (0, 0)) (oF BK408) hg (Kd.R_ne HO_7.out BK408.out (by decide))); replace BK413 := Aside0.mk (blk_grown (g := gb413) (o := .cells #[.string ((rd_T65 l1_4 x17_1).f0), .int .i64 ((rd_T65 l1_4 x17_1).f1)] 65 (0, 0)) (oP BK413) hg (Kd.R_ne HO_7.out BK413.out (by decide))); replace HB := Aside0.mk (hb); clear HO_7; clear ho hb hg hat; have hnb24 := NB407_408.out; have hnc24 := NB408_407.out; obtain ⟨⟨_, _⟩, _, _⟩ := z2 BK407; obtain ⟨⟨_, _⟩, _, _⟩ := z2 BK413) | ((with_reducible refine gate_callee (f := 42) rfl ?_); refine gl_ 34 Tryz.func42 (impl_InodeAt.calls k1 _ _ l0_0 a0_1 ((rd_T65 l1_4 x17_1).f1) t417 t418 t419 t420 t423 t426 t429 _ (kC HR0_0) HC0_0.out A16.out) ?_; rintro e w27 ⟨v421, v424, v427, rfl, ho0, ho1, ho2, hb⟩; refine ⟨_, rfl, ?_⟩; have HO422 := Aside0.mk (Kd.R_lower ho0 (below_size oB)); have HO425 := Aside0.mk (Kd.R_lower (Kd.R_newB ho1 (g := gb413) (o := .cells #[.string ((rd_T65 l1_4 x17_1).f0), .int .i64 ((rd_T65 l1_4 x17_1).f1)] 65 (0, 0)) (oF BK413)) (below_size oB)); have HO428 := Aside0.mk (Kd.R_lower ho2 (below_size oB)); replace HO416 := kr_ HO416 hb; replace BK407 := kb_ BK407 hb; replace BK408 := kb_ BK408 hb; replace BK413 := kb_ BK413 hb; replace HB := Aside0.mk (below_step oB hb); (try clear ho1); (try clear ho2)) | ((with_reducible refine gate_dst (N := 11) rfl ?_); refine bx_ 11 #[.int .i64 0, .int .i64 0, .int .i64 0, .slice none 0 0, .slice none 0 0, .slice none 0 0] 51 ?_; intro gb430 hg w28 hbox hb; have BK430 := Aside0.mk (hbox); have GW430 := gs_ hg; have NB407_430 := nl_ hg BK407; have NB430_407 := nr_ hg BK407; have NB408_430 := nl_ hg BK408; have NB430_408 := nr_ hg BK408; have NB413_430 := nl_ hg BK413; have NB430_413 := nr_ hg BK413; replace HO416 := kr_ HO416 hb; replace HO422 := kr_ HO422 hb; replace HO425 := kr_ HO425 hb; replace HO428 := kr_ HO428 hb; replace BK407 := kb_ BK407 hb; replace BK408 := kb_ BK408 hb; replace BK413 := kb_ BK413 hb; replace HB := Aside0.mk (below_step oB hb); clear hb hbox hg; have hnb29 := NB430_407.out; have hnc29 := NB407_430.out; have hnb30 := NB430_408.out; have hnc30 := NB408_430.out; have hnb31 := NB430_413.out; have hnc31 := NB413_430.out; obtain ⟨⟨_, _, _, _, _, _⟩, _, _, _, _, _, _⟩ := z6 BK430; obtain ⟨Ao33, co33, eo33⟩ := Kd.R_slice HO422.out; subst eo33; obtain ⟨Ao34, co34, eo34⟩ := Kd.R_slice HO425.out; subst eo34; obtain ⟨Ao35, co35, eo35⟩ := Kd.R_slice HO428.out; subst eo35; obtain ⟨⟨_, _⟩, _, _⟩ := z2 BK407) | ((with_reducible refine gate_callee (f := 43) rfl ?_); refine gl_ 41 Tryz.func43 (ih k1 (by have := HK1.out; omega) _ _ l0_0 a0_1 t417 t418 t419 _ _ t420 _ _ t423 _ _ t426 ((a2 ++ (⟨#[47]⟩ : ByteArray)) ++ ((rd_T65 l1_4 x17_1).f0)) t431 _ ?side1 HC0_0.out (rcR1 HO422 BK430) (ko HO422) (rcR1 HO425 BK430) (ko HO425) (rcR1 HO428 BK430) (ko HO428) A17.out) ?_; (case side1 => exact Kd.C_below HR0_0.out oB); rintro e w37 ⟨v432, rfl, ho0, hb⟩; refine ⟨_, rfl, ?_⟩; have HO433 := Aside0.mk (Kd.R_lower (Kd.R_new' ho0 (ltR1 HO416 BK430)) (below_size oB)); replace HO416 := elR1 HO416 BK430 (Kd.R_base ho0) hb; replace HO422 := beR1 HO422 BK430 hb; replace HO425 := beR1 HO425 BK430 hb; replace HO428 := beR1 HO428 BK430 hb; replace BK407 := kb_ BK407 hb; replace BK408 := kb_ BK408 hb; replace BK413 := kb_ BK413 hb; replace BK430 := kp_ #[.int .i64 t417, .int .i64 t418, .int .i64 t419, .slice Ao33 t420.length co33, .slice Ao34 t423.length co34, .slice Ao35 t426.length co35] BK430 hb; replace HB := Aside0.mk (below_step oB hb); (try clear hk); obtain ⟨Ao39, co39, eo39⟩ := Kd.R_slice HO433.out; subst eo39) | ((with_reducible refine gate_builtin (b := .append) (xs := #[.tmp 37, .tmp 41]) rfl ?_); at_builtin; refine Kd.R_append_rows Kd.string (w0 := w) w.heap.size rfl (.tmp 37) (.tmp 41) 31 9 (.string ⟨#[]⟩) 16 rfl Tryz.underlying31 info9 rfl (by decide) (by omega) v415 y414 t431 _ _ _ (fun k_ => some k_ ≠ (.slice Ao39 t431.length co39 : Value).ownBlock) (fun _ => False) rfl rfl ?aO ?aR (fun _ _ h => h) (fun _ h => h.elim) ?aF ?aB ?aS ?aL ?_; (case aR => repeat (first | exact (Kd.R_reads' HO433.out).2.2 | (with_reducible refine Kd.C_alloc ?_ _) | (with_reducible refine Kd.C_drewN ?_ _) | (with_reducible refine Kd.C_drew ?_))); (case aB => exact oB); (case aF => exact (fun k_ hk => Kd.fresh' (kl_ HO433) k_ hk)); (case aO => exact (by (with_reducible repeat (first | apply Kd.R_alloc | apply Kd.R_drewN | apply Kd.R_drew)); exact Kd.R_mono HO416.out (fun _ hk => hk.2))); (case aS => exact (below_size oB)); (case aL => have := LMc18.out; omega); intro v435 w38 ho hb hg hat; rw [← Ny434.out] at ho; have HO436 := Aside0.mk (ho); replace BK407 := Aside0.mk (blk_grown (g := gb407) (o := .cells #[.slice A0_0 l0_0.length c0_0, .int .i64 a0_1] 26 (0, 0)) (oF BK407) hg (Kd.R_ne HO416.out BK407.out (by decide))); replace BK408 := Aside0.mk (blk_grown (g := gb408) (o := .cells #[.int .i64 a1_0, .int .i64 a1_1, .int .i64 a1_2, .slice A1_3 l1_3.length c1_3, .slice (some ad412) l1_4.length c1_4, .slice A1_5 l1_5.length c1_5] 51 (0, 0)) (oF BK408) hg (Kd.R_ne HO416.out BK408.out (by decide))); replace BK413 := Aside0.mk (blk_grown (g := gb413) (o := .cells #[.string ((rd_T65 l1_4 x17_1).f0), .int .i64 ((rd_T65 l1_4 x17_1).f1)] 65 (0, 0)) (oF BK413) hg (Kd.R_ne HO416.out BK413.out (by decide))); replace HO422 := Aside0.mk (Kd.R_over' (oR HO422) (Kd.R_typed (oR HO416)) (by decide) hg); replace HO425 := Aside0.mk (Kd.R_over' (oR HO425) (Kd.R_typed (oR HO416)) (by decide) hg); replace HO428 := Aside0.mk (Kd.R_over' (oR HO428) (Kd.R_typed (oR HO416)) (by decide) hg); replace BK430 := Aside0.mk (blk_grown (g := gb430) (o := .cells #[.int .i64 t417, .int .i64 t418, .int .i64 t419, .slice Ao33 t420.length co33, .slice Ao34 t423.length co34, .slice Ao35 t426.length co35] 51 (0, 0)) (oF BK430) hg (Kd.R_ne HO416.out BK430.out (by decide))); replace HO433 := Aside0.mk (Kd.R_after (ok := (fun _ => True)) (oR HO433) hg hat); replace HB := Aside0.mk (hb); clear HO416; clear ho hb hg hat))
          go_roundg k1
          case measure => have := HK1.out; omega
          case rel => exact ⟨(y434), (wrap64 (x17_1 + 1)), oS, H', ⟨by have := HK1.out; omega⟩, ⟨by (with_reducible repeat (first | apply Kd.R_alloc | apply Kd.R_drewN | apply Kd.R_drew)); exact Kd.R_mono HO436.out (fun _ hk => trivial)⟩, ⟨oF BK407⟩, ⟨oF BK408⟩, ⟨oB⟩⟩
         ·rw [if_neg c18] at H
          exact absurd H (by simp)
        ·rw [if_neg c15] at H
         exact absurd H (by simp)
       ·rw [if_neg c14] at H
        exact absurd H (by simp)
      ·rw [if_neg c13] at H
       exact absurd H (by simp)
     ·cases H
    ·cases H
   ·obtain rfl := Option.some.inj H
    go_wp2
    go_ret
    exact ⟨_, oE, oR HO_7, oB⟩

end Go.Proofs.YtkcfmbggdkkfeaaGreatDoor.P
