-- By this session's own program (wip/myprint.py) out of the translation; Lean checks it.
import Derived.Test.YtkcfmbggdkkfeaaGreatDoorPx0
import Derived.Test.YtkcfmbggdkkfeaaGreatDoorPx3
import Derived.Test.YtkcfmbggdkkfeaaGreatDoorPx9
import Derived.Test.YtkcfmbggdkkfeaaGreatDoorPx10
import Derived.Test.YtkcfmbggdkkfeaaGreatDoorPx13
import Derived.Test.YtkcfmbggdkkfeaaGreatDoorPx15
namespace Go.Proofs.YtkcfmbggdkkfeaaGreatDoor.P
open Go.RowKit Go.Proofs.YtkcfmbggdkkfeaaGreatDoorW.PrintWords Go.Proofs.YtkcfmbggdkkfeaaGreatDoorW.PrintLast Go.Proofs.YtkcfmbggdkkfeaaGreatDoorW.PrintMore
attribute [local go_sem] max2_int min2_int max_two min_two max_three min_three max_four min_four   -- for this text's walks alone
set_option linter.unusedVariables false
set_option linter.unusedSimpArgs false

/-! ### laws_FnLinkCount: function 7 -/
mutual
def laws_FnLinkCount.l0 : Nat → List Int → Bool → List ByteArray → Int → List (S51) → Int → Option (Bool)
 | 0, _, _, _, _, _, _ => none
 | k + 1, x0, x4, x5, x6, x569000, x569001 => if x6 < 4 then (if 0 ≤ (wrap64 (x6 - 1)) then (if (wrap64 (x6 - 1)) < (x5.length : Int) then (if 0 ≤ x6 then (if x6 < (x5.length : Int) then ((impl_HardLink.f k x569000 x569001 (rdOf ByteArray.empty x5 (wrap64 (x6 - 1))) (rdOf ByteArray.empty x5 x6)).bind fun bt574 => (if bt574.2.2 = 0 then (laws_FnLinkCount.l0 k x0 x4 x5 (wrap64 (x6 + 1)) bt574.1 bt574.2.1) else (none))) else (none)) else (none)) else (none)) else (none)) else ((laws_at.f x0 4).bind fun t580 => (laws_FnLinkCount.l1 k x4 x5 (x569000.length : Int) (Int.tmod t580 4) 0 x569000 x569001))
def laws_FnLinkCount.l1 : Nat → Bool → List ByteArray → Int → Int → Int → List (S51) → Int → Option (Bool)
 | 0, _, _, _, _, _, _, _ => none
 | k + 1, x4, x5, x9, x10, x11, x569000, x569001 => if x11 < 4 then (if 0 ≤ (Int.tmod (wrap64 (x10 + x11)) 4) then (if (Int.tmod (wrap64 (x10 + x11)) 4) < (x5.length : Int) then ((impl_Stat.f k x569000 x569001 (rdOf ByteArray.empty x5 (Int.tmod (wrap64 (x10 + x11)) 4))).bind fun bt582 => ((impl_Unlink.f k x569000 x569001 (rdOf ByteArray.empty x5 (Int.tmod (wrap64 (x10 + x11)) 4))).bind fun bt597 => (if bt582.2.2.2.2.2.2 = 0 then (if bt597.2.2 = 0 then (if bt582.2.2.1 = (wrap64 (4 - x11)) then (if x11 < 3 then (if (bt597.1.length : Int) = x9 then ((impl_TreeOk.f k bt597.1 bt597.2.1).bind fun t603 => (if t603 = true then (laws_FnLinkCount.l1 k x4 x5 x9 x10 (wrap64 (x11 + 1)) bt597.1 bt597.2.1) else (none))) else (none)) else ((impl_TreeOk.f k bt597.1 bt597.2.1).bind fun t604 => (if t604 = true then (laws_FnLinkCount.l1 k x4 x5 x9 x10 (wrap64 (x11 + 1)) bt597.1 bt597.2.1) else (none)))) else (none)) else (none)) else (none)))) else (none)) else (none)) else (if x4 = true then (some ((x569000.length : Int) == (wrap64 (x9 - 1)))) else (none))
end
def laws_FnLinkCount.f (k : Nat) (l0 : List Int) : Option (Bool) := (laws_big.f l0).bind fun t562 => (if t562 = true then (some true) else ((laws_grown.f k l0).bind fun bt563 => (laws_FnLinkCount.l0 k l0 bt563.2.2 (([(⟨#[47, 116, 111, 112]⟩ : ByteArray), (⟨#[47, 108, 49]⟩ : ByteArray), (⟨#[47, 108, 50]⟩ : ByteArray), (⟨#[47, 100, 105, 114, 47, 108, 51]⟩ : ByteArray)] : List ByteArray)) 1 bt563.1 bt563.2.1)))
def laws_FnLinkCount.T8 : Bool × List (List Nat × List Nat) := (true, [([], []), ([], []), ([], []), ([2], [2]), ([1, 3], [1, 3]), ([4], [4]), ([], []), ([], []), ([6, 7], [6, 7]), ([8], [8]), ([0, 5, 9], [0, 5, 9]), ([10], [10]), ([11], [11]), ([11], [11]), ([], []), ([14, 12, 10, 0, 1, 2, 3, 4, 5, 6, 7, 8, 9, 10, 11, 12, 14], [12, 14]), ([13, 15, 0, 1, 2, 3, 4, 5, 6, 7, 8, 9, 10, 11, 12, 13, 14, 15], [13])])
def laws_FnLinkCount.B8 : List Nat := [0, 0, 0, 4, 14, 30, 0, 0, 192, 448, 1023, 2047, 4095, 4095, 0, 24575, 65535]
theorem laws_FnLinkCount.tab8 : rtab .any (opsOf Tryz.f7 8) = laws_FnLinkCount.T8 := by kernel_rfl
theorem laws_FnLinkCount.bits8 : waitsOk laws_FnLinkCount.T8.2 laws_FnLinkCount.B8 = true := by kernel_rfl
def laws_FnLinkCount.T17 : Bool × List (List Nat × List Nat) := (true, [([], []), ([], []), ([], []), ([], []), ([2, 3], [2, 3]), ([4], [4]), ([1, 5], [1, 5]), ([6], [6]), ([0, 7], [0, 7]), ([8], [8]), ([9], [9]), ([9], [9]), ([], []), ([12, 10, 8, 0, 1, 2, 3, 4, 5, 6, 7, 8, 9, 10, 12], [10, 12]), ([11, 13, 0, 1, 2, 3, 4, 5, 6, 7, 8, 9, 10, 11, 12, 13], [11])])
def laws_FnLinkCount.B17 : List Nat := [0, 0, 0, 0, 12, 28, 62, 126, 255, 511, 1023, 1023, 0, 6143, 16383]
theorem laws_FnLinkCount.tab17 : rtab .any (opsOf Tryz.f7 17) = laws_FnLinkCount.T17 := by kernel_rfl
theorem laws_FnLinkCount.bits17 : waitsOk laws_FnLinkCount.T17.2 laws_FnLinkCount.B17 = true := by kernel_rfl
def laws_FnLinkCount.T18 : Bool × List (List Nat × List Nat) := (true, [([], []), ([], []), ([], []), ([], []), ([2, 3], [2, 3]), ([4], [4]), ([1, 5], [1, 5]), ([6], [6]), ([0, 7], [0, 7]), ([8], [8]), ([9], [9]), ([9], [9]), ([], []), ([12, 10, 8, 0, 1, 2, 3, 4, 5, 6, 7, 8, 9, 10, 12], [10, 12]), ([11, 13, 0, 1, 2, 3, 4, 5, 6, 7, 8, 9, 10, 11, 12, 13], [11])])
def laws_FnLinkCount.B18 : List Nat := [0, 0, 0, 0, 12, 28, 62, 126, 255, 511, 1023, 1023, 0, 6143, 16383]
theorem laws_FnLinkCount.tab18 : rtab .any (opsOf Tryz.f7 18) = laws_FnLinkCount.T18 := by kernel_rfl
theorem laws_FnLinkCount.bits18 : waitsOk laws_FnLinkCount.T18.2 laws_FnLinkCount.B18 = true := by kernel_rfl
set_option maxHeartbeats 8000000 in
set_option maxRecDepth 100000 in
theorem laws_FnLinkCount.calls (k : Nat) (A0 : Option Addr) (c0 : Nat) (l0 : List Int) (r : Bool) (w : World) (hr0 : Kd.C (Kd.int .u8) w A0 l0.length l0) (hc0 : l0.length ≤ c0) (h : laws_FnLinkCount.f k l0 = some r) (hG : GOk w := by exact gk_ oB (by first | (with_reducible assumption) | assumption)) :
  Calls Tryz.prog 7 #[.slice A0 l0.length c0] w fun e w' => e = .returned (.bool r) ∧ Below w.heap.size w w' := by
 have HG := Aside0.mk hG
 clear hG
 have hu26 := Tryz.underlying26
 have hu51 := Tryz.underlying51
 have HR0 := Aside0.mk hr0
 have HC0 := Aside0.mk hc0
 clear hr0 hc0
 have HB := Aside0.mk (Below.refl w.heap.size w)
 unfold laws_FnLinkCount.f at h
 have H := h
 clear h
 replace H := bA H
 obtain ⟨t562, A2, H⟩ := H
 try dsimp only at H
 replace H := itB H
 rcases H with ⟨rfl, H⟩ | ⟨rfl, H⟩
 ·obtain rfl := Option.some.inj H
  go_enter Tryz.func7, Tryz.ntmps7
  go_wp2_with (first | ((with_reducible refine gate_callee (f := 11) rfl ?_); refine gl_ 17 Tryz.func11 (laws_big.calls _ _ l0 true _ (kD HR0) HC0.out A2.out) ?_; rintro e w' ⟨rfl, ⟨nd, rfl⟩⟩; refine ⟨_, rfl, ?_⟩))
  go_ret
  exact ⟨oE, oB⟩
 ·replace H := bA H
  obtain ⟨⟨t563, t566, t567⟩, A4, H⟩ := H
  try dsimp only at H
  obtain ⟨y569, hy569⟩ : ∃ y_ : List ByteArray, y_ = (([(⟨#[47, 116, 111, 112]⟩ : ByteArray), (⟨#[47, 108, 49]⟩ : ByteArray), (⟨#[47, 108, 50]⟩ : ByteArray), (⟨#[47, 100, 105, 114, 47, 108, 51]⟩ : ByteArray)] : List ByteArray)) := ⟨_, rfl⟩
  replace H : (laws_FnLinkCount.l0 k l0 t567 y569 1 t563 t566) = some r := by first | (rw [hy569]; with_reducible exact H) | (have H2_ := (Option.bind_some _ _).symm.trans H; rw [hy569]; with_reducible exact H2_) | (have H2_ := (Option.bind_some _ _).symm.trans H; with_reducible exact H2_) | with_reducible exact H | (rw [hy569]; exact H) | exact H
  have Ny569 := Aside0.mk hy569
  clear hy569
  have H' := Aside0.mk H
  clear H
  go_enter Tryz.func7, Tryz.ntmps7
  go_wp2_with (first | ((with_reducible refine gate_callee (f := 11) rfl ?_); refine gl_ 17 Tryz.func11 (laws_big.calls _ _ l0 false _ (kD HR0) HC0.out A2.out) ?_; rintro e w' ⟨rfl, ⟨nd, rfl⟩⟩; refine ⟨_, rfl, ?_⟩) | ((with_reducible refine gate_callee (f := 21) rfl ?_); refine gl_ 20 Tryz.func21 (laws_grown.calls k _ _ l0 t563 t566 t567 _ (kD HR0) HC0.out A4.out) ?_; rintro e w5 ⟨v564, rfl, ho0, hb⟩; refine ⟨_, rfl, ?_⟩; have HO565 := Aside0.mk (Kd.S_lower ho0 (below_size oB)); replace HB := Aside0.mk (below_step oB hb)) | ((with_reducible refine gate_dst (N := 3) rfl ?_); (try (refine gate_guard (by rfl) ?_; dsimp only)); refine bx_ 3 #[.slice none 0 0, .int .i64 0] 26 ?_; intro gb568 hg w6 hbox hb; have BK568 := Aside0.mk (hbox); have GW568 := gs_ hg; replace HO565 := beS0 HO565 hb; replace HB := Aside0.mk (below_step oB hb); clear hb hbox hg; obtain ⟨Ao7, co7, eo7⟩ := Kd.S_slice HO565.out; subst eo7; obtain ⟨⟨_, _⟩, _, _⟩ := z2 BK568) | ((with_reducible refine gate_dst (N := 23) rfl ?_); (try (refine gate_guard (by rfl) ?_; dsimp only)); refine Kd.R_lit Kd.string _ 9 ?hg (N := 23) ?hd (xs := ([(⟨#[47, 116, 111, 112]⟩ : ByteArray), (⟨#[47, 108, 49]⟩ : ByteArray), (⟨#[47, 108, 50]⟩ : ByteArray), (⟨#[47, 100, 105, 114, 47, 108, 51]⟩ : ByteArray)] : List ByteArray)) (inner := [.string (⟨#[47, 116, 111, 112]⟩ : ByteArray), .string (⟨#[47, 108, 49]⟩ : ByteArray), .string (⟨#[47, 108, 50]⟩ : ByteArray), .string (⟨#[47, 100, 105, 114, 47, 108, 51]⟩ : ByteArray)]) (ok := fun _ => True) (okp := fun _ => True) ?hr ?hp (fun _ hk => hk) trivial (Below.refl _ _) (Nat.le_refl _) (by simp) ?_; (case hd => rfl); (case hg => rfl); (case hr => first | (go_simp; done) | (go_simp; rfl)); (case hp => exact (Reps.one (show Kd.M Kd.string _ _ _ (⟨#[47, 116, 111, 112]⟩ : ByteArray) [.string (⟨#[47, 116, 111, 112]⟩ : ByteArray)] from rfl) (Reps.one (show Kd.M Kd.string _ _ _ (⟨#[47, 108, 49]⟩ : ByteArray) [.string (⟨#[47, 108, 49]⟩ : ByteArray)] from rfl) (Reps.one (show Kd.M Kd.string _ _ _ (⟨#[47, 108, 50]⟩ : ByteArray) [.string (⟨#[47, 108, 50]⟩ : ByteArray)] from rfl) (Reps.one (show Kd.M Kd.string _ _ _ (⟨#[47, 100, 105, 114, 47, 108, 51]⟩ : ByteArray) [.string (⟨#[47, 100, 105, 114, 47, 108, 51]⟩ : ByteArray)] from rfl) (Reps.none _ _)))))); intro v570 w9 ho10 hb hg_ hnew_; clear hg_ hnew_; (first | rw [← Ny569.out] at ho10 | (simp only [Int.reduceToNat] at ho10; rw [← Ny569.out] at ho10)); have HO571 := Aside0.mk (Kd.R_lower ho10 (below_size oB)); replace HO565 := beS1 HO565 BK568 hb; replace BK568 := kp_ #[.slice Ao7 t563.length co7, .int .i64 t566] BK568 hb; replace HB := Aside0.mk (below_step oB hb); clear hb ho10))
  go_loopg [6] k (fun kq v6 w' => ∃ (x6_1 : Int) (x569000_1 : List (S51)) (x569001_1 : Int) (u569000 : Value), v6 = .int .i64 x6_1 ∧ Aside0 (laws_FnLinkCount.l0 kq l0 t567 y569 x6_1 x569000_1 x569001_1 = some r) ∧ Aside0 (kq ≤ k) ∧ Aside0 (Kd.R Kd.string 9 w' w.heap.size (fun _ => True) v570 y569) ∧ Aside0 (Kd.S k51 51 w' w.heap.size (fun _ => True) u569000 x569000_1) ∧ Aside0 (w'.heap[gb568]? = some (.cells #[u569000, .int .i64 x569001_1] 26 (0, 0))) ∧ Aside0 (Below w.heap.size w w'))
  case atStart => exact ⟨(1), (t563), (t566), (.slice Ao7 t563.length co7), oS, H', ⟨Nat.le_refl _⟩, ⟨oR HO571⟩, ⟨by (with_reducible repeat (first | apply Kd.S_alloc | apply Kd.S_drewN | apply Kd.S_drew)); exact HO565.out⟩, ⟨oF BK568⟩, ⟨oB⟩⟩
  case round =>
   clear H'
   obtain ⟨x6_1, x569000_1, x569001_1, u569000, rfl, HA, HK1, HO_5, HO_569000, BK568, HB⟩ := hrel
   cases gk with
   | zero => exact absurd HA.out (by simp [laws_FnLinkCount.l0])
   | succ k1 =>
    have H := HA.out
    clear HA
    simp only [laws_FnLinkCount.l0] at H
    replace H := itD H
    rcases H with ⟨c11b0, H⟩ | ⟨c11b0, H⟩
    ·obtain ⟨ji12, hji12⟩ : ∃ j_ : Int, (wrap64 (x6_1 - 1)) = j_ := ⟨_, rfl⟩
     replace H : (if 0 ≤ (ji12) then (if (ji12) < (y569.length : Int) then (if 0 ≤ x6_1 then (if x6_1 < (y569.length : Int) then ((impl_HardLink.f k1 x569000_1 x569001_1 (rdOf ByteArray.empty y569 (ji12)) (rdOf ByteArray.empty y569 x6_1)).bind fun bt574 => (if bt574.2.2 = 0 then (laws_FnLinkCount.l0 k1 l0 t567 y569 (wrap64 (x6_1 + 1)) bt574.1 bt574.2.1) else (none))) else (none)) else (none)) else (none)) else (none)) = some r := by first | (rw [hji12] at H; exact H) | (simp only [hji12] at H ⊢; exact H)
     have hji12w : (IntKind.i64.wrap (x6_1 - 1)) = ji12 := (i64_w _).trans hji12
     replace H := itD H
     rcases H with ⟨c13b0, H⟩ | ⟨c13b0, H⟩
     ·replace H := itD H
      rcases H with ⟨c14b0, H⟩ | ⟨c14b0, H⟩
      ·replace H := itD H
       rcases H with ⟨c15b0, H⟩ | ⟨c15b0, H⟩
       ·replace H := itD H
        rcases H with ⟨c16b0, H⟩ | ⟨c16b0, H⟩
        ·replace H := bA H
         obtain ⟨⟨t574, t577, t578⟩, A17, H⟩ := H
         try dsimp only at H
         by_cases c18 : t578 = 0
         ·rw [if_pos c18] at H
          have c18b0 : (t578 == 0) = true := beq_iff_eq.mpr c18
          have c18b1 : (t578 != 0) = false := bne_eq_false_iff_eq.mpr c18
          clear c18
          have H' := Aside0.mk H
          clear H
          obtain ⟨Ao19, co19, eo19⟩ := Kd.S_slice HO_569000.out
          subst eo19
          try go_wp2
          replace HO_5 := Aside0.mk (Kd.R_drew HO_5.out)
          replace HO_569000 := Aside0.mk (Kd.S_drew HO_569000.out)
          replace BK568 := Aside0.mk (blk_drew BK568.out)
          replace HB := Aside0.mk (below_drew1 HB.out)
          obtain ⟨Ao21, co21, eo21⟩ := Kd.R_slice HO_5.out
          (first | subst eo21 | (injection eo21 with f1_ f2_ f3_; have f4_ := f1_.symm; have f5_ := f3_.symm; clear f1_ f2_ f3_; subst f4_; subst f5_))
          have p572 : (0 ≤ ((ji12) : Int)) = True := oT
          have q572 : ((ji12) < (y569.length : Int)) = True := oT
          obtain ⟨ad572, e572, hx572_0⟩ := Kd.at_string (Kd.R_reads' HO_5.out).2.2 (ji12) oa oa
          cases e572
          have p573 : (0 ≤ (x6_1 : Int)) = True := oT
          have q573 : (x6_1 < (y569.length : Int)) = True := oT
          obtain ⟨ad573, e573, hx573_0⟩ := Kd.at_string (Kd.R_reads' HO_5.out).2.2 x6_1 oa oa
          obtain rfl : ad572 = ad573 := (by injection e573)
          refine st_ 17 (fun w' => w'.cell? ⟨gb568, 0, none⟩ = some (.slice Ao19 x569000_1.length co19) ∧ w'.cell? ⟨gb568, 1, none⟩ = some (.int .i64 x569001_1) ∧ w'.cell? (ad572.add ((ji12)).toNat) = some (.string (rdOf ByteArray.empty y569 (ji12))) ∧ w'.cell? (ad572.add (x6_1).toNat) = some (.string (rdOf ByteArray.empty y569 x6_1))) laws_FnLinkCount.tab8 laws_FnLinkCount.bits8 ⟨(blk_cell BK568.out 0).trans rfl, (blk_cell BK568.out 1).trans rfl, hx572_0, hx573_0⟩ (fun hHeld HT_ HW_ => ?_)
          generalize wr.drew = w20 at HO_5 HO_569000 BK568 HB hx572_0 hx573_0 hHeld ⊢
          refine pu_ 1 30 HT_ ?_
          refine pu_ 2 31 HT_ ?_
          refine pu_ 3 32 HT_ ?_
          refine pu_ 4 33 HT_ ?_
          refine pu_ 6 35 HT_ ?_
          refine pu_ 7 36 HT_ ?_
          refine pu_ 8 37 HT_ ?_
          refine ta_ 0 29 HT_ HW_ hHeld ?_
          refine ta_ 5 34 HT_ HW_ hHeld ?_
          refine ta_ 9 38 HT_ HW_ hHeld ?_
          refine join_ (σ := Value × Nat) 2 (lb 17 32767) (fun s_ => [(39, .tuple #[.agg #[s_.1, .int .i64 t577], .int .i64 t578]), (7, .pointer (some ⟨s_.2, 0, none⟩)), (28, .tuple #[.agg #[s_.1, .int .i64 t577], .int .i64 t578]), (40, .agg #[s_.1, .int .i64 t577]), (41, .int .i64 t578)]) (fun s_ w' => (w'.cell? ⟨gb568, 0, none⟩ = some (.slice Ao19 x569000_1.length co19) ∧ w'.cell? ⟨gb568, 1, none⟩ = some (.int .i64 x569001_1) ∧ w'.cell? (ad572.add ((ji12)).toNat) = some (.string (rdOf ByteArray.empty y569 (ji12))) ∧ w'.cell? (ad572.add (x6_1).toNat) = some (.string (rdOf ByteArray.empty y569 x6_1))) ∧ (Kd.S k51 51 w' w.heap.size (fun k_ => some k_ ≠ (.slice Ao19 x569000_1.length co19 : Value).ownBlock) s_.1 t574) ∧ (Kd.R Kd.string 9 w' w.heap.size (fun _ => True) (.slice (some ad572) y569.length co21) y569) ∧ (Kd.S k51 51 w' w.heap.size (fun k_ => some k_ ≠ (s_.1 : Value).ownBlock) (.slice Ao19 x569000_1.length co19) x569000_1) ∧ (w'.heap[gb568]? = some (.cells #[.slice Ao19 x569000_1.length co19, .int .i64 x569001_1] 26 (0, 0))) ∧ (w'.heap[s_.2]? = some (.cells #[.slice none 0 0, .int .i64 0] 26 (0, 0))) ∧ (w.heap.size ≤ s_.2) ∧ (w.heap.size ≤ s_.2) ∧ (gb568 ≠ s_.2) ∧ (s_.2 ≠ gb568) ∧ (Below w.heap.size w w')) ?_ ?_
          rotate_left
          ·intro hCont
           refine two_ (i := 10) (j := 14) (Ni := some 39) (Nj := some 7) (lb 17 2047) (lb 17 17407) rfl rfl rfl rfl (two_of HT_.out (by kernel_rfl)) (by decide) (by decide) (fun K hK => ?_) (fun K hK => ?_)
           ·skip
            refine goes_ Tryz.func27 (by kernel_rfl) rfl #[.agg #[.slice Ao19 x569000_1.length co19, .int .i64 x569001_1], .string (rdOf ByteArray.empty y569 (ji12)), .string (rdOf ByteArray.empty y569 x6_1)] (by rfl) rfl rfl (by (try simp only [List.map_toArray, List.map_cons, List.map_nil]); first | done | (simp only [hji12]; rfl) | rfl | (simp only [List.length_drop, List.length_take]; rfl)) ?_
            with_reducible refine (impl_HardLink.calls k1 _ _ x569000_1 x569001_1 (rdOf ByteArray.empty y569 (ji12)) (rdOf ByteArray.empty y569 x6_1) t574 t577 t578 _ (rcS0 HO_569000) (rnS HO_569000) A17.out).mono ?_
            rintro e w22 ⟨v575, rfl, ho0, hb⟩
            have HS2_ := (hb.cell (World.block_lt_of_cell? _ _ (hHeld.2.2.1))).trans (hHeld.2.2.1)
            have HS3_ := (hb.cell (World.block_lt_of_cell? _ _ (hHeld.2.2.2))).trans (hHeld.2.2.2)
            refine ⟨_, rfl, ?_⟩
            have HO576 := Aside0.mk (Kd.S_lower (Kd.S_new' ho0 (ltS0 HO_569000)) (below_size oB))
            replace HO_5 := kr_ HO_5 hb
            replace HO_569000 := elS0 HO_569000 (Kd.S_base ho0) hb
            replace BK568 := kb_ BK568 hb
            replace HB := Aside0.mk (below_step oB hb)
            refine hk_ hK 39 ⟨(blk_cell BK568.out 0).trans rfl, (blk_cell BK568.out 1).trans rfl, HS2_, HS3_⟩ (fun hHeld => ?_)
            clear hK K
            refine pu_ 11 28 HT_ ?_
            refine pu_ 12 40 HT_ ?_
            refine pu_ 13 41 HT_ ?_
            refine on_ 14 7 HT_ (fun K hK => ?_)
            refine box_step ?hg (N := 7) ?hd (cs := #[.slice none 0 0, .int .i64 0]) (t := 26) ?hr ?_; (case hd => rfl); (case hg => rfl); (case hr => first | (go_simp; done) | (go_simp; rfl))
            intro gb579 hg w23 hbox hb
            have HS2_ := (hb.cell (World.block_lt_of_cell? _ _ (hHeld.2.2.1))).trans (hHeld.2.2.1)
            have HS3_ := (hb.cell (World.block_lt_of_cell? _ _ (hHeld.2.2.2))).trans (hHeld.2.2.2)
            have BK579 := Aside0.mk (hbox)
            have GW579 := gs_ hg
            have GE579 := gs_ hg
            have NB568_579 := nl_ hg BK568
            have NB579_568 := nr_ hg BK568
            replace HO_5 := kr_ HO_5 hb
            replace HO_569000 := beS0 HO_569000 hb
            replace HO576 := beS0 HO576 hb
            replace BK568 := kb_ BK568 hb
            replace HB := Aside0.mk (below_step oB hb)
            clear hb hbox hg
            refine hk_ hK 7 ⟨(blk_cell BK568.out 0).trans rfl, (blk_cell BK568.out 1).trans rfl, HS2_, HS3_⟩ (fun hHeld => ?_)
            clear hK K
            exact norm_ (by simp only [putAll, Act.put, List.setIfInBounds_toArray, List.set_cons_zero, List.set_cons_succ]) (hCont (v575, gb579) _ ⟨hHeld, (by (with_reducible repeat (first | apply Kd.S_alloc | apply Kd.S_drewN | apply Kd.S_drew)); exact Kd.S_mono HO576.out (fun _ hk => hk.2)), (oR HO_5), (by (with_reducible repeat (first | apply Kd.S_alloc | apply Kd.S_drewN | apply Kd.S_drew)); exact Kd.S_mono HO_569000.out (fun _ hk => hk.2)), (oF BK568), (oF BK579), GW579.out, GE579.out, NB568_579.out, NB579_568.out, oB⟩)
           ·skip
            refine box_step ?hg (N := 7) ?hd (cs := #[.slice none 0 0, .int .i64 0]) (t := 26) ?hr ?_; (case hd => rfl); (case hg => rfl); (case hr => first | (go_simp; done) | (go_simp; rfl))
            intro gb579 hg w22 hbox hb
            have HS2_ := (hb.cell (World.block_lt_of_cell? _ _ (hHeld.2.2.1))).trans (hHeld.2.2.1)
            have HS3_ := (hb.cell (World.block_lt_of_cell? _ _ (hHeld.2.2.2))).trans (hHeld.2.2.2)
            have BK579 := Aside0.mk (hbox)
            have GW579 := gs_ hg
            have GE579 := gs_ hg
            have NB568_579 := nl_ hg BK568
            have NB579_568 := nr_ hg BK568
            replace HO_5 := kr_ HO_5 hb
            replace HO_569000 := beS0 HO_569000 hb
            replace BK568 := kb_ BK568 hb
            replace HB := Aside0.mk (below_step oB hb)
            clear hb hbox hg
            refine hk_ hK 7 ⟨(blk_cell BK568.out 0).trans rfl, (blk_cell BK568.out 1).trans rfl, HS2_, HS3_⟩ (fun hHeld => ?_)
            clear hK K
            refine on_ 10 39 HT_ (fun K hK => ?_)
            refine goes_ Tryz.func27 (by kernel_rfl) rfl #[.agg #[.slice Ao19 x569000_1.length co19, .int .i64 x569001_1], .string (rdOf ByteArray.empty y569 (ji12)), .string (rdOf ByteArray.empty y569 x6_1)] (by rfl) rfl rfl (by (try simp only [List.map_toArray, List.map_cons, List.map_nil]); first | done | (simp only [hji12]; rfl) | rfl | (simp only [List.length_drop, List.length_take]; rfl)) ?_
            with_reducible refine (impl_HardLink.calls k1 _ _ x569000_1 x569001_1 (rdOf ByteArray.empty y569 (ji12)) (rdOf ByteArray.empty y569 x6_1) t574 t577 t578 _ (rcS0 HO_569000) (rnS HO_569000) A17.out).mono ?_
            rintro e w23 ⟨v575, rfl, ho0, hb⟩
            have HS2_ := (hb.cell (World.block_lt_of_cell? _ _ (hHeld.2.2.1))).trans (hHeld.2.2.1)
            have HS3_ := (hb.cell (World.block_lt_of_cell? _ _ (hHeld.2.2.2))).trans (hHeld.2.2.2)
            refine ⟨_, rfl, ?_⟩
            have HO576 := Aside0.mk (Kd.S_lower (Kd.S_new' ho0 (ltS0 HO_569000)) (below_size oB))
            replace HO_5 := kr_ HO_5 hb
            replace HO_569000 := elS0 HO_569000 (Kd.S_base ho0) hb
            replace BK568 := kb_ BK568 hb
            replace BK579 := kb_ BK579 hb
            replace HB := Aside0.mk (below_step oB hb)
            refine hk_ hK 39 ⟨(blk_cell BK568.out 0).trans rfl, (blk_cell BK568.out 1).trans rfl, HS2_, HS3_⟩ (fun hHeld => ?_)
            clear hK K
            refine pu_ 11 28 HT_ ?_
            refine pu_ 12 40 HT_ ?_
            refine pu_ 13 41 HT_ ?_
            exact norm_ (by simp only [putAll, Act.put, List.setIfInBounds_toArray, List.set_cons_zero, List.set_cons_succ]) (hCont (v575, gb579) _ ⟨hHeld, (by (with_reducible repeat (first | apply Kd.S_alloc | apply Kd.S_drewN | apply Kd.S_drew)); exact Kd.S_mono HO576.out (fun _ hk => hk.2)), (oR HO_5), (by (with_reducible repeat (first | apply Kd.S_alloc | apply Kd.S_drewN | apply Kd.S_drew)); exact Kd.S_mono HO_569000.out (fun _ hk => hk.2)), (oF BK568), (oF BK579), GW579.out, GE579.out, NB568_579.out, NB579_568.out, oB⟩)
          rintro ⟨v575, gb579⟩ w24 ⟨hS_, h0_, h1_, h2_, h3_, h4_, h5_, h6_, h7_, h8_, h9_⟩
          have n0_ : Aside0 (Kd.S k51 51 w24 w.heap.size (fun k_ => some k_ ≠ (.slice Ao19 x569000_1.length co19 : Value).ownBlock) v575 t574) := ⟨h0_⟩
          have n1_ : Aside0 (Kd.R Kd.string 9 w24 w.heap.size (fun _ => True) (.slice (some ad572) y569.length co21) y569) := ⟨h1_⟩
          have n2_ : Aside0 (Kd.S k51 51 w24 w.heap.size (fun k_ => some k_ ≠ (v575 : Value).ownBlock) (.slice Ao19 x569000_1.length co19) x569000_1) := ⟨h2_⟩
          have n3_ : Aside0 (w24.heap[gb568]? = some (.cells #[.slice Ao19 x569000_1.length co19, .int .i64 x569001_1] 26 (0, 0))) := ⟨h3_⟩
          have n4_ : Aside0 (w24.heap[gb579]? = some (.cells #[.slice none 0 0, .int .i64 0] 26 (0, 0))) := ⟨h4_⟩
          have n5_ : Aside0 (w.heap.size ≤ gb579) := ⟨h5_⟩
          have n6_ : Aside0 (w.heap.size ≤ gb579) := ⟨h6_⟩
          have n7_ : Aside0 (gb568 ≠ gb579) := ⟨h7_⟩
          have n8_ : Aside0 (gb579 ≠ gb568) := ⟨h8_⟩
          have n9_ : Aside0 (Below w.heap.size w w24) := ⟨h9_⟩
          clear HO_5
          clear HO_569000
          clear BK568
          clear HB
          clear h0_ h1_ h2_ h3_ h4_ h5_ h6_ h7_ h8_ h9_
          have HO576 := n0_
          have HO_5 := n1_
          have HO_569000 := n2_
          have BK568 := n3_
          have BK579 := n4_
          have GW579 := n5_
          have GE579 := n6_
          have NB568_579 := n7_
          have NB579_568 := n8_
          have HB := n9_
          clear n0_ n1_ n2_ n3_ n4_ n5_ n6_ n7_ n8_ n9_
          have hHeld : w24.cell? ⟨gb568, 0, none⟩ = some (.slice Ao19 x569000_1.length co19) ∧ w24.cell? ⟨gb568, 1, none⟩ = some (.int .i64 x569001_1) ∧ w24.cell? (ad572.add ((ji12)).toNat) = some (.string (rdOf ByteArray.empty y569 (ji12))) ∧ w24.cell? (ad572.add (x6_1).toNat) = some (.string (rdOf ByteArray.empty y569 x6_1)) := hS_
          obtain ⟨Ao25, co25, eo25⟩ := Kd.S_slice HO576.out
          (first | subst eo25 | (injection eo25 with f1_ f2_ f3_; have f4_ := f1_.symm; have f5_ := f3_.symm; clear f1_ f2_ f3_; subst f4_; subst f5_))
          refine norm_ (a' := ?_) ?_ ?_
          rotate_left
          ·simp only [putAll, Act.put, List.setIfInBounds_toArray, List.set_cons_zero, List.set_cons_succ]
           rfl
          refine one_ (i := 15) (N := none) (lb 17 65535) rfl rfl (one_of HT_.out (by kernel_rfl)) (by decide) (fun K hK => ?_)
          have hs26 : w24.cell? ⟨gb579, 0, none⟩ = some (.slice none 0 0) := (blk_cell BK579.out 0).trans rfl
          have hfs26 := blk_frozen BK579.out 0
          have hns26_0 := NB568_579.out
          have hms26_0 := NB579_568.out
          have hs27 : w24.cell? ⟨gb579, 1, none⟩ = some (.int .i64 0) := (blk_cell BK579.out 1).trans rfl
          have hfs27 := blk_frozen BK579.out 1
          have hns27_0 := NB568_579.out
          have hms27_0 := NB579_568.out
          refine skip_ (w1 := ?_) (by rfl) rfl ?_ ?_
          rotate_left
          ·go_simp
           rfl
          refine hK.out _ _ ⟨((cell_far (p := ⟨gb579, _, none⟩) NB568_579.out _).trans (((cell_far (p := ⟨gb579, _, none⟩) NB568_579.out _).trans (hHeld.1)))), ((cell_far (p := ⟨gb579, _, none⟩) NB568_579.out _).trans (((cell_far (p := ⟨gb579, _, none⟩) NB568_579.out _).trans (hHeld.2.1)))), ((cell_far (p := ⟨gb579, _, none⟩) (by first | exact Kd.own_blk (Kd.R_ne HO_5.out BK579.out (by decide)) | (rw [add_block]; exact Kd.own_blk (Kd.R_ne HO_5.out BK579.out (by decide))) | (show (Addr.add _ _).block ≠ _; rw [add_block]; exact Kd.own_blk (Kd.R_ne HO_5.out BK579.out (by decide))) | (dsimp only; exact Kd.own_blk (Kd.R_ne HO_5.out BK579.out (by decide)))) _).trans (((cell_far (p := ⟨gb579, _, none⟩) (by first | exact Kd.own_blk (Kd.R_ne HO_5.out BK579.out (by decide)) | (rw [add_block]; exact Kd.own_blk (Kd.R_ne HO_5.out BK579.out (by decide))) | (show (Addr.add _ _).block ≠ _; rw [add_block]; exact Kd.own_blk (Kd.R_ne HO_5.out BK579.out (by decide))) | (dsimp only; exact Kd.own_blk (Kd.R_ne HO_5.out BK579.out (by decide)))) _).trans (hHeld.2.2.1)))), ((cell_far (p := ⟨gb579, _, none⟩) (by first | exact Kd.own_blk (Kd.R_ne HO_5.out BK579.out (by decide)) | (rw [add_block]; exact Kd.own_blk (Kd.R_ne HO_5.out BK579.out (by decide))) | (show (Addr.add _ _).block ≠ _; rw [add_block]; exact Kd.own_blk (Kd.R_ne HO_5.out BK579.out (by decide))) | (dsimp only; exact Kd.own_blk (Kd.R_ne HO_5.out BK579.out (by decide)))) _).trans (((cell_far (p := ⟨gb579, _, none⟩) (by first | exact Kd.own_blk (Kd.R_ne HO_5.out BK579.out (by decide)) | (rw [add_block]; exact Kd.own_blk (Kd.R_ne HO_5.out BK579.out (by decide))) | (show (Addr.add _ _).block ≠ _; rw [add_block]; exact Kd.own_blk (Kd.R_ne HO_5.out BK579.out (by decide))) | (dsimp only; exact Kd.own_blk (Kd.R_ne HO_5.out BK579.out (by decide)))) _).trans (hHeld.2.2.2))))⟩ (fun hHeld => ?_)
          clear hK K
          refine pu_ 16 8 HT_ ?_
          refine dn_ HT_ ?_
          have hnb28 := NB579_568.out
          have hnc28 := NB568_579.out
          obtain ⟨⟨_, _⟩, _, _⟩ := z2 BK579
          obtain ⟨⟨_, _⟩, _, _⟩ := z2 BK568
          try go_wp2
          go_roundg k1
          case measure => have := HK1.out; omega
          case rel => exact ⟨(wrap64 (x6_1 + 1)), (t574), (t577), (.slice Ao25 t574.length co25), oS, H', ⟨by have := HK1.out; omega⟩, ⟨by (with_reducible repeat (first | apply Kd.R_alloc | apply Kd.R_drewN | apply Kd.R_drew)); exact Kd.R_mono (Kd.R_far (p := ⟨gb568, 1, none⟩) (Kd.R_far (p := ⟨gb568, 0, none⟩) (Kd.R_far (p := ⟨gb579, 1, none⟩) (Kd.R_far (p := ⟨gb579, 0, none⟩) (Kd.R_types (Kd.R_types HO_5.out BK579.out (by decide)) BK568.out (by decide)) (fun _ hk => hk.1.2) (.slice Ao25 t574.length co25)) (fun _ hk => hk.1.2) (.int .i64 t577)) (fun _ hk => hk.2) (.slice Ao25 t574.length co25)) (fun _ hk => hk.2) (.int .i64 t577)) (fun _ hk => trivial)⟩, ⟨by (with_reducible repeat (first | apply Kd.S_alloc | apply Kd.S_drewN | apply Kd.S_drew)); exact Kd.S_mono (Kd.S_far (p := ⟨gb568, 1, none⟩) (Kd.S_far (p := ⟨gb568, 0, none⟩) (Kd.S_far (p := ⟨gb579, 1, none⟩) (Kd.S_far (p := ⟨gb579, 0, none⟩) (Kd.S_types (Kd.S_types HO576.out BK579.out (by decide)) BK568.out (by decide)) (fun _ hk => hk.1.2) (.slice Ao25 t574.length co25)) (fun _ hk => hk.1.2) (.int .i64 t577)) (fun _ hk => hk.2) (.slice Ao25 t574.length co25)) (fun _ hk => hk.2) (.int .i64 t577)) (fun _ hk => trivial)⟩, ⟨oP BK568⟩, ⟨oB⟩⟩
         ·rw [if_neg c18] at H
          cases H
        ·cases H
       ·cases H
      ·cases H
     ·cases H
    ·replace H := bA H
     obtain ⟨t580, A40, H⟩ := H
     try dsimp only at H
     have H' := Aside0.mk H
     clear H
     obtain ⟨⟨_, _⟩, _, _⟩ := z2 BK568
     obtain ⟨Ao42, co42, eo42⟩ := Kd.S_slice HO_569000.out
     subst eo42
     go_wp2_with (first | ((with_reducible refine gate_callee (f := 20) rfl ?_); refine gl_ 49 Tryz.func20 (laws_at.calls _ _ l0 4 t580 _ (kC HR0) HC0.out A40.out) ?_; rintro e w' ⟨rfl, ⟨nd, rfl⟩⟩; refine ⟨_, rfl, ?_⟩))
     go_loopg [11] k1 (fun kq v11 w' => ∃ (x11_2 : Int) (x569000_2 : List (S51)) (x569001_2 : Int) (u569000 : Value), v11 = .int .i64 x11_2 ∧ Aside0 (laws_FnLinkCount.l1 kq t567 y569 (x569000_1.length : Int) (Int.tmod t580 4) x11_2 x569000_2 x569001_2 = some r) ∧ Aside0 (kq ≤ k1) ∧ Aside0 (Kd.R Kd.string 9 w' w.heap.size (fun _ => True) v570 y569) ∧ Aside0 (Kd.S k51 51 w' w.heap.size (fun _ => True) u569000 x569000_2) ∧ Aside0 (w'.heap[gb568]? = some (.cells #[u569000, .int .i64 x569001_2] 26 (0, 0))) ∧ Aside0 (Below w.heap.size w w'))
     case atStart => exact ⟨(0), (x569000_1), (x569001_1), (.slice Ao42 x569000_1.length co42), oS, H', ⟨Nat.le_refl _⟩, ⟨oR HO_5⟩, ⟨by (with_reducible repeat (first | apply Kd.S_alloc | apply Kd.S_drewN | apply Kd.S_drew)); exact HO_569000.out⟩, ⟨oF BK568⟩, ⟨oB⟩⟩
     case round =>
      clear H'
      try clear c11b0
      obtain ⟨x11_2, x569000_2, x569001_2, u569000, rfl, HA, HK2, HO_5, HO_569000, BK568, HB⟩ := hrel
      cases gk with
      | zero => exact absurd HA.out (by simp [laws_FnLinkCount.l1])
      | succ k2 =>
       have H := HA.out
       clear HA
       simp only [laws_FnLinkCount.l1] at H
       replace H := itD H
       rcases H with ⟨c43b0, H⟩ | ⟨c43b0, H⟩
       ·obtain ⟨ji44, hji44⟩ : ∃ j_ : Int, (Int.tmod (wrap64 ((Int.tmod t580 4) + x11_2)) 4) = j_ := ⟨_, rfl⟩
        replace H : (if 0 ≤ (ji44) then (if (ji44) < (y569.length : Int) then ((impl_Stat.f k2 x569000_2 x569001_2 (rdOf ByteArray.empty y569 (ji44))).bind fun bt582 => ((impl_Unlink.f k2 x569000_2 x569001_2 (rdOf ByteArray.empty y569 (ji44))).bind fun bt597 => (if bt582.2.2.2.2.2.2 = 0 then (if bt597.2.2 = 0 then (if bt582.2.2.1 = (wrap64 (4 - x11_2)) then (if x11_2 < 3 then (if (bt597.1.length : Int) = (x569000_1.length : Int) then ((impl_TreeOk.f k2 bt597.1 bt597.2.1).bind fun t603 => (if t603 = true then (laws_FnLinkCount.l1 k2 t567 y569 (x569000_1.length : Int) (Int.tmod t580 4) (wrap64 (x11_2 + 1)) bt597.1 bt597.2.1) else (none))) else (none)) else ((impl_TreeOk.f k2 bt597.1 bt597.2.1).bind fun t604 => (if t604 = true then (laws_FnLinkCount.l1 k2 t567 y569 (x569000_1.length : Int) (Int.tmod t580 4) (wrap64 (x11_2 + 1)) bt597.1 bt597.2.1) else (none)))) else (none)) else (none)) else (none)))) else (none)) else (none)) = some r := by first | (rw [hji44] at H; exact H) | (simp only [hji44] at H ⊢; exact H)
        replace H := itD H
        rcases H with ⟨c45b0, H⟩ | ⟨c45b0, H⟩
        ·replace H := itD H
         rcases H with ⟨c46b0, H⟩ | ⟨c46b0, H⟩
         ·replace H := bA H
          obtain ⟨⟨t582, t583, t584, t585, t588, t591, t594⟩, A47, H⟩ := H
          try dsimp only at H
          replace H := bA H
          obtain ⟨⟨t597, t600, t601⟩, A48, H⟩ := H
          try dsimp only at H
          by_cases c49 : t594 = 0
          ·rw [if_pos c49] at H
           have c49b0 : (t594 == 0) = true := beq_iff_eq.mpr c49
           have c49b1 : (t594 != 0) = false := bne_eq_false_iff_eq.mpr c49
           clear c49
           by_cases c50 : t601 = 0
           ·rw [if_pos c50] at H
            have c50b0 : (t601 == 0) = true := beq_iff_eq.mpr c50
            have c50b1 : (t601 != 0) = false := bne_eq_false_iff_eq.mpr c50
            clear c50
            by_cases c51 : t584 = (wrap64 (4 - x11_2))
            ·rw [if_pos c51] at H
             have c51b0 : (t584 == (wrap64 (4 - x11_2))) = true := beq_iff_eq.mpr c51
             have c51b1 : (t584 != (wrap64 (4 - x11_2))) = false := bne_eq_false_iff_eq.mpr c51
             clear c51
             replace H := itD H
             rcases H with ⟨c52b0, H⟩ | ⟨c52b0, H⟩
             ·by_cases c53 : (t597.length : Int) = (x569000_1.length : Int)
              ·rw [if_pos c53] at H
               have c53b0 : ((t597.length : Int) == (x569000_1.length : Int)) = true := beq_iff_eq.mpr c53
               have c53b1 : ((t597.length : Int) != (x569000_1.length : Int)) = false := bne_eq_false_iff_eq.mpr c53
               have c53b2 : (t597.length == x569000_1.length) = true := by first | simpa using c53 | (simp at c53 ⊢; omega)
               clear c53
               replace H := bA H
               obtain ⟨t603, A54, H⟩ := H
               try dsimp only at H
               replace H := itB H
               rcases H with ⟨rfl, H⟩ | ⟨rfl, H⟩
               ·have H' := Aside0.mk H
                clear H
                obtain ⟨Ao56, co56, eo56⟩ := Kd.S_slice HO_569000.out
                subst eo56
                try go_wp2
                replace HO_5 := Aside0.mk (Kd.R_drew HO_5.out)
                replace HO_569000 := Aside0.mk (Kd.S_drew HO_569000.out)
                replace BK568 := Aside0.mk (blk_drew BK568.out)
                replace HB := Aside0.mk (below_drew1 HB.out)
                obtain ⟨Ao58, co58, eo58⟩ := Kd.R_slice HO_5.out
                (first | subst eo58 | (injection eo58 with f1_ f2_ f3_; have f4_ := f1_.symm; have f5_ := f3_.symm; clear f1_ f2_ f3_; subst f4_; subst f5_))
                have p581 : (0 ≤ ((ji44) : Int)) = True := oT
                have q581 : ((ji44) < (y569.length : Int)) = True := oT
                obtain ⟨ad581, e581, hx581_0⟩ := Kd.at_string (Kd.R_reads' HO_5.out).2.2 (ji44) oa oa
                cases e581
                refine st_ 15 (fun w' => w'.cell? ⟨gb568, 0, none⟩ = some (.slice Ao56 x569000_2.length co56) ∧ w'.cell? ⟨gb568, 1, none⟩ = some (.int .i64 x569001_2) ∧ w'.cell? (ad581.add ((ji44)).toNat) = some (.string (rdOf ByteArray.empty y569 (ji44)))) laws_FnLinkCount.tab17 laws_FnLinkCount.bits17 ⟨(blk_cell BK568.out 0).trans rfl, (blk_cell BK568.out 1).trans rfl, hx581_0⟩ (fun hHeld HT_ HW_ => ?_)
                generalize wr.drew = w57 at HO_5 HO_569000 BK568 HB hx581_0 hHeld ⊢
                refine pu_ 1 57 HT_ ?_
                refine pu_ 2 58 HT_ ?_
                refine pu_ 3 59 HT_ ?_
                refine pu_ 4 60 HT_ ?_
                refine pu_ 5 61 HT_ ?_
                refine pu_ 6 62 HT_ ?_
                refine ta_ 0 56 HT_ HW_ hHeld ?_
                refine ta_ 7 63 HT_ HW_ hHeld ?_
                refine join_ (σ := Value × Value × Value × Nat) 2 (lb 15 8191) (fun s_ => [(64, .tuple #[.agg #[.int .i64 t582, .int .i64 t583, .int .i64 t584, s_.1, s_.2.1, s_.2.2.1], .int .i64 t594]), (12, .pointer (some ⟨s_.2.2.2, 0, none⟩)), (55, .tuple #[.agg #[.int .i64 t582, .int .i64 t583, .int .i64 t584, s_.1, s_.2.1, s_.2.2.1], .int .i64 t594]), (65, .agg #[.int .i64 t582, .int .i64 t583, .int .i64 t584, s_.1, s_.2.1, s_.2.2.1]), (66, .int .i64 t594)]) (fun s_ w' => (w'.cell? ⟨gb568, 0, none⟩ = some (.slice Ao56 x569000_2.length co56) ∧ w'.cell? ⟨gb568, 1, none⟩ = some (.int .i64 x569001_2) ∧ w'.cell? (ad581.add ((ji44)).toNat) = some (.string (rdOf ByteArray.empty y569 (ji44)))) ∧ (Kd.R (Kd.int .u8) 5 w' w.heap.size (fun _ => True) s_.1 t585) ∧ (Kd.R k65 65 w' w.heap.size (fun _ => True) s_.2.1 t588) ∧ (Kd.R k71 71 w' w.heap.size (fun _ => True) s_.2.2.1 t591) ∧ (Kd.R Kd.string 9 w' w.heap.size (fun _ => True) (.slice (some ad581) y569.length co58) y569) ∧ (Kd.S k51 51 w' w.heap.size (fun k_ => some k_ ≠ (s_.1 : Value).ownBlock ∧ some k_ ≠ (s_.2.1 : Value).ownBlock ∧ some k_ ≠ (s_.2.2.1 : Value).ownBlock ∧ k_ ≠ s_.2.2.2) (.slice Ao56 x569000_2.length co56) x569000_2) ∧ (w'.heap[gb568]? = some (.cells #[.slice Ao56 x569000_2.length co56, .int .i64 x569001_2] 26 (0, 0))) ∧ (w'.heap[s_.2.2.2]? = some (.cells #[.int .i64 0, .int .i64 0, .int .i64 0, .slice none 0 0, .slice none 0 0, .slice none 0 0] 51 (0, 0))) ∧ (w.heap.size ≤ s_.2.2.2) ∧ (w.heap.size ≤ s_.2.2.2) ∧ (gb568 ≠ s_.2.2.2) ∧ (s_.2.2.2 ≠ gb568) ∧ (Below w.heap.size w w')) ?_ ?_
                rotate_left
                ·intro hCont
                 refine two_ (i := 8) (j := 12) (Ni := some 64) (Nj := some 12) (lb 15 511) (lb 15 4351) rfl rfl rfl rfl (two_of HT_.out (by kernel_rfl)) (by decide) (by decide) (fun K hK => ?_) (fun K hK => ?_)
                 ·skip
                  refine goes_ Tryz.func28 (by kernel_rfl) rfl #[.agg #[.slice Ao56 x569000_2.length co56, .int .i64 x569001_2], .string (rdOf ByteArray.empty y569 (ji44))] (by rfl) rfl rfl (by (try simp only [List.map_toArray, List.map_cons, List.map_nil]); first | done | (simp only [hji44]; rfl) | rfl | (simp only [List.length_drop, List.length_take]; rfl)) ?_
                  with_reducible refine (impl_Stat.calls k2 _ _ x569000_2 x569001_2 (rdOf ByteArray.empty y569 (ji44)) t582 t583 t584 t585 t588 t591 t594 _ (rcS0 HO_569000) (rnS HO_569000) A47.out).mono ?_
                  rintro e w59 ⟨v586, v589, v592, rfl, ho0, ho1, ho2, hb⟩
                  have HS2_ := (hb.cell (World.block_lt_of_cell? _ _ (hHeld.2.2))).trans (hHeld.2.2)
                  refine ⟨_, rfl, ?_⟩
                  have HO587 := Aside0.mk (Kd.R_lower ho0 (below_size oB))
                  have HO590 := Aside0.mk (Kd.R_lower ho1 (below_size oB))
                  have HO593 := Aside0.mk (Kd.R_lower ho2 (below_size oB))
                  replace HO_5 := kr_ HO_5 hb
                  replace HO_569000 := tdS3 (olS0 HO_569000 hb) (Kd.R_base ho0) (Kd.R_base ho1) (Kd.R_base ho2)
                  replace BK568 := kb_ BK568 hb
                  replace HB := Aside0.mk (below_step oB hb)
                  (try clear ho1)
                  (try clear ho2)
                  refine hk_ hK 64 ⟨(blk_cell BK568.out 0).trans rfl, (blk_cell BK568.out 1).trans rfl, HS2_⟩ (fun hHeld => ?_)
                  clear hK K
                  refine pu_ 9 55 HT_ ?_
                  refine pu_ 10 65 HT_ ?_
                  refine pu_ 11 66 HT_ ?_
                  refine on_ 12 12 HT_ (fun K hK => ?_)
                  refine box_step ?hg (N := 12) ?hd (cs := #[.int .i64 0, .int .i64 0, .int .i64 0, .slice none 0 0, .slice none 0 0, .slice none 0 0]) (t := 51) ?hr ?_; (case hd => rfl); (case hg => rfl); (case hr => first | (go_simp; done) | (go_simp; rfl))
                  intro gb595 hg w60 hbox hb
                  have HS2_ := (hb.cell (World.block_lt_of_cell? _ _ (hHeld.2.2))).trans (hHeld.2.2)
                  have BK595 := Aside0.mk (hbox)
                  have GW595 := gs_ hg
                  have GE595 := gs_ hg
                  have NB568_595 := nl_ hg BK568
                  have NB595_568 := nr_ hg BK568
                  replace HO_5 := kr_ HO_5 hb
                  replace HO_569000 := Aside0.mk (Kd.S_below (Kd.S_elderB (nS0 HO_569000) gb595 (Nat.le_of_eq hg.symm)) hb)
                  replace HO587 := kr_ HO587 hb
                  replace HO590 := kr_ HO590 hb
                  replace HO593 := kr_ HO593 hb
                  replace BK568 := kb_ BK568 hb
                  replace HB := Aside0.mk (below_step oB hb)
                  clear hb hbox hg
                  refine hk_ hK 12 ⟨(blk_cell BK568.out 0).trans rfl, (blk_cell BK568.out 1).trans rfl, HS2_⟩ (fun hHeld => ?_)
                  clear hK K
                  exact norm_ (by simp only [putAll, Act.put, List.setIfInBounds_toArray, List.set_cons_zero, List.set_cons_succ]) (hCont (v586, v589, v592, gb595) _ ⟨hHeld, (oR HO587), (oR HO590), (oR HO593), (oR HO_5), (by (with_reducible repeat (first | apply Kd.S_alloc | apply Kd.S_drewN | apply Kd.S_drew)); exact Kd.S_mono HO_569000.out (fun _ hk => ⟨hk.1.1.1.2, ⟨hk.1.1.2, ⟨hk.1.2, hk.2⟩⟩⟩)), (oF BK568), (oF BK595), GW595.out, GE595.out, NB568_595.out, NB595_568.out, oB⟩)
                 ·skip
                  refine box_step ?hg (N := 12) ?hd (cs := #[.int .i64 0, .int .i64 0, .int .i64 0, .slice none 0 0, .slice none 0 0, .slice none 0 0]) (t := 51) ?hr ?_; (case hd => rfl); (case hg => rfl); (case hr => first | (go_simp; done) | (go_simp; rfl))
                  intro gb595 hg w59 hbox hb
                  have HS2_ := (hb.cell (World.block_lt_of_cell? _ _ (hHeld.2.2))).trans (hHeld.2.2)
                  have BK595 := Aside0.mk (hbox)
                  have GW595 := gs_ hg
                  have GE595 := gs_ hg
                  have NB568_595 := nl_ hg BK568
                  have NB595_568 := nr_ hg BK568
                  replace HO_5 := kr_ HO_5 hb
                  replace HO_569000 := Aside0.mk (Kd.S_below (Kd.S_elderB (nS0 HO_569000) gb595 (Nat.le_of_eq hg.symm)) hb)
                  replace BK568 := kb_ BK568 hb
                  replace HB := Aside0.mk (below_step oB hb)
                  clear hb hbox hg
                  refine hk_ hK 12 ⟨(blk_cell BK568.out 0).trans rfl, (blk_cell BK568.out 1).trans rfl, HS2_⟩ (fun hHeld => ?_)
                  clear hK K
                  refine on_ 8 64 HT_ (fun K hK => ?_)
                  refine goes_ Tryz.func28 (by kernel_rfl) rfl #[.agg #[.slice Ao56 x569000_2.length co56, .int .i64 x569001_2], .string (rdOf ByteArray.empty y569 (ji44))] (by rfl) rfl rfl (by (try simp only [List.map_toArray, List.map_cons, List.map_nil]); first | done | (simp only [hji44]; rfl) | rfl | (simp only [List.length_drop, List.length_take]; rfl)) ?_
                  with_reducible refine (impl_Stat.calls k2 _ _ x569000_2 x569001_2 (rdOf ByteArray.empty y569 (ji44)) t582 t583 t584 t585 t588 t591 t594 _ (rcS0 HO_569000) (rnS HO_569000) A47.out).mono ?_
                  rintro e w60 ⟨v586, v589, v592, rfl, ho0, ho1, ho2, hb⟩
                  have HS2_ := (hb.cell (World.block_lt_of_cell? _ _ (hHeld.2.2))).trans (hHeld.2.2)
                  refine ⟨_, rfl, ?_⟩
                  have HO587 := Aside0.mk (Kd.R_lower ho0 (below_size oB))
                  have HO590 := Aside0.mk (Kd.R_lower ho1 (below_size oB))
                  have HO593 := Aside0.mk (Kd.R_lower ho2 (below_size oB))
                  replace HO_5 := kr_ HO_5 hb
                  replace HO_569000 := tdS3 (olS0 HO_569000 hb) (Kd.R_base ho0) (Kd.R_base ho1) (Kd.R_base ho2)
                  replace BK568 := kb_ BK568 hb
                  replace BK595 := kb_ BK595 hb
                  replace HB := Aside0.mk (below_step oB hb)
                  (try clear ho1)
                  (try clear ho2)
                  refine hk_ hK 64 ⟨(blk_cell BK568.out 0).trans rfl, (blk_cell BK568.out 1).trans rfl, HS2_⟩ (fun hHeld => ?_)
                  clear hK K
                  refine pu_ 9 55 HT_ ?_
                  refine pu_ 10 65 HT_ ?_
                  refine pu_ 11 66 HT_ ?_
                  exact norm_ (by simp only [putAll, Act.put, List.setIfInBounds_toArray, List.set_cons_zero, List.set_cons_succ]) (hCont (v586, v589, v592, gb595) _ ⟨hHeld, (oR HO587), (oR HO590), (oR HO593), (oR HO_5), (by (with_reducible repeat (first | apply Kd.S_alloc | apply Kd.S_drewN | apply Kd.S_drew)); exact Kd.S_mono HO_569000.out (fun _ hk => ⟨hk.1.1.2, ⟨hk.1.2, ⟨hk.2, hk.1.1.1.2⟩⟩⟩)), (oF BK568), (oF BK595), GW595.out, GE595.out, NB568_595.out, NB595_568.out, oB⟩)
                rintro ⟨v586, v589, v592, gb595⟩ w61 ⟨hS_, h0_, h1_, h2_, h3_, h4_, h5_, h6_, h7_, h8_, h9_, h10_, h11_⟩
                have n0_ : Aside0 (Kd.R (Kd.int .u8) 5 w61 w.heap.size (fun _ => True) v586 t585) := ⟨h0_⟩
                have n1_ : Aside0 (Kd.R k65 65 w61 w.heap.size (fun _ => True) v589 t588) := ⟨h1_⟩
                have n2_ : Aside0 (Kd.R k71 71 w61 w.heap.size (fun _ => True) v592 t591) := ⟨h2_⟩
                have n3_ : Aside0 (Kd.R Kd.string 9 w61 w.heap.size (fun _ => True) (.slice (some ad581) y569.length co58) y569) := ⟨h3_⟩
                have n4_ : Aside0 (Kd.S k51 51 w61 w.heap.size (fun k_ => some k_ ≠ (v586 : Value).ownBlock ∧ some k_ ≠ (v589 : Value).ownBlock ∧ some k_ ≠ (v592 : Value).ownBlock ∧ k_ ≠ gb595) (.slice Ao56 x569000_2.length co56) x569000_2) := ⟨h4_⟩
                have n5_ : Aside0 (w61.heap[gb568]? = some (.cells #[.slice Ao56 x569000_2.length co56, .int .i64 x569001_2] 26 (0, 0))) := ⟨h5_⟩
                have n6_ : Aside0 (w61.heap[gb595]? = some (.cells #[.int .i64 0, .int .i64 0, .int .i64 0, .slice none 0 0, .slice none 0 0, .slice none 0 0] 51 (0, 0))) := ⟨h6_⟩
                have n7_ : Aside0 (w.heap.size ≤ gb595) := ⟨h7_⟩
                have n8_ : Aside0 (w.heap.size ≤ gb595) := ⟨h8_⟩
                have n9_ : Aside0 (gb568 ≠ gb595) := ⟨h9_⟩
                have n10_ : Aside0 (gb595 ≠ gb568) := ⟨h10_⟩
                have n11_ : Aside0 (Below w.heap.size w w61) := ⟨h11_⟩
                clear HO_5
                clear HO_569000
                clear BK568
                clear HB
                clear h0_ h1_ h2_ h3_ h4_ h5_ h6_ h7_ h8_ h9_ h10_ h11_
                have HO587 := n0_
                have HO590 := n1_
                have HO593 := n2_
                have HO_5 := n3_
                have HO_569000 := n4_
                have BK568 := n5_
                have BK595 := n6_
                have GW595 := n7_
                have GE595 := n8_
                have NB568_595 := n9_
                have NB595_568 := n10_
                have HB := n11_
                clear n0_ n1_ n2_ n3_ n4_ n5_ n6_ n7_ n8_ n9_ n10_ n11_
                have hHeld : w61.cell? ⟨gb568, 0, none⟩ = some (.slice Ao56 x569000_2.length co56) ∧ w61.cell? ⟨gb568, 1, none⟩ = some (.int .i64 x569001_2) ∧ w61.cell? (ad581.add ((ji44)).toNat) = some (.string (rdOf ByteArray.empty y569 (ji44))) := hS_
                obtain ⟨Ao65, co65, eo65⟩ := Kd.R_slice HO587.out
                (first | subst eo65 | (injection eo65 with f1_ f2_ f3_; have f4_ := f1_.symm; have f5_ := f3_.symm; clear f1_ f2_ f3_; subst f4_; subst f5_))
                obtain ⟨Ao67, co67, eo67⟩ := Kd.R_slice HO590.out
                (first | subst eo67 | (injection eo67 with f1_ f2_ f3_; have f4_ := f1_.symm; have f5_ := f3_.symm; clear f1_ f2_ f3_; subst f4_; subst f5_))
                obtain ⟨Ao69, co69, eo69⟩ := Kd.R_slice HO593.out
                (first | subst eo69 | (injection eo69 with f1_ f2_ f3_; have f4_ := f1_.symm; have f5_ := f3_.symm; clear f1_ f2_ f3_; subst f4_; subst f5_))
                refine norm_ (a' := ?_) ?_ ?_
                rotate_left
                ·simp only [putAll, Act.put, List.setIfInBounds_toArray, List.set_cons_zero, List.set_cons_succ]
                 rfl
                refine one_ (i := 13) (N := none) (lb 15 16383) rfl rfl (one_of HT_.out (by kernel_rfl)) (by decide) (fun K hK => ?_)
                have hs62 : w61.cell? ⟨gb595, 0, none⟩ = some (.int .i64 0) := (blk_cell BK595.out 0).trans rfl
                have hfs62 := blk_frozen BK595.out 0
                have hns62_0 := NB568_595.out
                have hms62_0 := NB595_568.out
                have hs63 : w61.cell? ⟨gb595, 1, none⟩ = some (.int .i64 0) := (blk_cell BK595.out 1).trans rfl
                have hfs63 := blk_frozen BK595.out 1
                have hns63_0 := NB568_595.out
                have hms63_0 := NB595_568.out
                have hs64 : w61.cell? ⟨gb595, 2, none⟩ = some (.int .i64 0) := (blk_cell BK595.out 2).trans rfl
                have hfs64 := blk_frozen BK595.out 2
                have hns64_0 := NB568_595.out
                have hms64_0 := NB595_568.out
                have hs66 : w61.cell? ⟨gb595, 3, none⟩ = some (.slice none 0 0) := (blk_cell BK595.out 3).trans rfl
                have hfs66 := blk_frozen BK595.out 3
                have hns66_0 := NB568_595.out
                have hms66_0 := NB595_568.out
                have hs68 : w61.cell? ⟨gb595, 4, none⟩ = some (.slice none 0 0) := (blk_cell BK595.out 4).trans rfl
                have hfs68 := blk_frozen BK595.out 4
                have hns68_0 := NB568_595.out
                have hms68_0 := NB595_568.out
                have hs70 : w61.cell? ⟨gb595, 5, none⟩ = some (.slice none 0 0) := (blk_cell BK595.out 5).trans rfl
                have hfs70 := blk_frozen BK595.out 5
                have hns70_0 := NB568_595.out
                have hms70_0 := NB595_568.out
                refine skip_ (w1 := ?_) (by rfl) rfl ?_ ?_
                rotate_left
                ·go_simp
                 rfl
                refine hK.out _ _ ⟨((cell_far (p := ⟨gb595, _, none⟩) NB568_595.out _).trans (((cell_far (p := ⟨gb595, _, none⟩) NB568_595.out _).trans (((cell_far (p := ⟨gb595, _, none⟩) NB568_595.out _).trans (((cell_far (p := ⟨gb595, _, none⟩) NB568_595.out _).trans (((cell_far (p := ⟨gb595, _, none⟩) NB568_595.out _).trans (((cell_far (p := ⟨gb595, _, none⟩) NB568_595.out _).trans (hHeld.1)))))))))))), ((cell_far (p := ⟨gb595, _, none⟩) NB568_595.out _).trans (((cell_far (p := ⟨gb595, _, none⟩) NB568_595.out _).trans (((cell_far (p := ⟨gb595, _, none⟩) NB568_595.out _).trans (((cell_far (p := ⟨gb595, _, none⟩) NB568_595.out _).trans (((cell_far (p := ⟨gb595, _, none⟩) NB568_595.out _).trans (((cell_far (p := ⟨gb595, _, none⟩) NB568_595.out _).trans (hHeld.2.1)))))))))))), ((cell_far (p := ⟨gb595, _, none⟩) (by first | exact Kd.own_blk (Kd.R_ne HO_5.out BK595.out (by decide)) | (rw [add_block]; exact Kd.own_blk (Kd.R_ne HO_5.out BK595.out (by decide))) | (show (Addr.add _ _).block ≠ _; rw [add_block]; exact Kd.own_blk (Kd.R_ne HO_5.out BK595.out (by decide))) | (dsimp only; exact Kd.own_blk (Kd.R_ne HO_5.out BK595.out (by decide)))) _).trans (((cell_far (p := ⟨gb595, _, none⟩) (by first | exact Kd.own_blk (Kd.R_ne HO_5.out BK595.out (by decide)) | (rw [add_block]; exact Kd.own_blk (Kd.R_ne HO_5.out BK595.out (by decide))) | (show (Addr.add _ _).block ≠ _; rw [add_block]; exact Kd.own_blk (Kd.R_ne HO_5.out BK595.out (by decide))) | (dsimp only; exact Kd.own_blk (Kd.R_ne HO_5.out BK595.out (by decide)))) _).trans (((cell_far (p := ⟨gb595, _, none⟩) (by first | exact Kd.own_blk (Kd.R_ne HO_5.out BK595.out (by decide)) | (rw [add_block]; exact Kd.own_blk (Kd.R_ne HO_5.out BK595.out (by decide))) | (show (Addr.add _ _).block ≠ _; rw [add_block]; exact Kd.own_blk (Kd.R_ne HO_5.out BK595.out (by decide))) | (dsimp only; exact Kd.own_blk (Kd.R_ne HO_5.out BK595.out (by decide)))) _).trans (((cell_far (p := ⟨gb595, _, none⟩) (by first | exact Kd.own_blk (Kd.R_ne HO_5.out BK595.out (by decide)) | (rw [add_block]; exact Kd.own_blk (Kd.R_ne HO_5.out BK595.out (by decide))) | (show (Addr.add _ _).block ≠ _; rw [add_block]; exact Kd.own_blk (Kd.R_ne HO_5.out BK595.out (by decide))) | (dsimp only; exact Kd.own_blk (Kd.R_ne HO_5.out BK595.out (by decide)))) _).trans (((cell_far (p := ⟨gb595, _, none⟩) (by first | exact Kd.own_blk (Kd.R_ne HO_5.out BK595.out (by decide)) | (rw [add_block]; exact Kd.own_blk (Kd.R_ne HO_5.out BK595.out (by decide))) | (show (Addr.add _ _).block ≠ _; rw [add_block]; exact Kd.own_blk (Kd.R_ne HO_5.out BK595.out (by decide))) | (dsimp only; exact Kd.own_blk (Kd.R_ne HO_5.out BK595.out (by decide)))) _).trans (((cell_far (p := ⟨gb595, _, none⟩) (by first | exact Kd.own_blk (Kd.R_ne HO_5.out BK595.out (by decide)) | (rw [add_block]; exact Kd.own_blk (Kd.R_ne HO_5.out BK595.out (by decide))) | (show (Addr.add _ _).block ≠ _; rw [add_block]; exact Kd.own_blk (Kd.R_ne HO_5.out BK595.out (by decide))) | (dsimp only; exact Kd.own_blk (Kd.R_ne HO_5.out BK595.out (by decide)))) _).trans (hHeld.2.2))))))))))))⟩ (fun hHeld => ?_)
                clear hK K
                refine pu_ 14 13 HT_ ?_
                refine dn_ HT_ ?_
                try go_wp2
                have n0_ : Aside0 (Kd.R Kd.string 9 ((((((w61.setCell ⟨gb595, 0, none⟩ (.int .i64 t582)).setCell ⟨gb595, 1, none⟩ (.int .i64 t583)).setCell ⟨gb595, 2, none⟩ (.int .i64 t584)).setCell ⟨gb595, 3, none⟩ (.slice Ao65 t585.length co65)).setCell ⟨gb595, 4, none⟩ (.slice Ao67 t588.length co67)).setCell ⟨gb595, 5, none⟩ (.slice Ao69 t591.length co69)) w.heap.size (fun _ => True) (.slice (some ad581) y569.length co58) y569) := ⟨by (with_reducible repeat (first | apply Kd.R_alloc | apply Kd.R_drewN | apply Kd.R_drew)); exact Kd.R_mono (Kd.R_far (p := ⟨gb595, 5, none⟩) (Kd.R_far (p := ⟨gb595, 4, none⟩) (Kd.R_far (p := ⟨gb595, 3, none⟩) (Kd.R_far (p := ⟨gb595, 2, none⟩) (Kd.R_far (p := ⟨gb595, 1, none⟩) (Kd.R_far (p := ⟨gb595, 0, none⟩) (Kd.R_types HO_5.out BK595.out (by decide)) (fun _ hk => hk.2) (.int .i64 t582)) (fun _ hk => hk.2) (.int .i64 t583)) (fun _ hk => hk.2) (.int .i64 t584)) (fun _ hk => hk.2) (.slice Ao65 t585.length co65)) (fun _ hk => hk.2) (.slice Ao67 t588.length co67)) (fun _ hk => hk.2) (.slice Ao69 t591.length co69)) (fun _ hk => trivial)⟩
                have n1_ : Aside0 (Kd.S k51 51 ((((((w61.setCell ⟨gb595, 0, none⟩ (.int .i64 t582)).setCell ⟨gb595, 1, none⟩ (.int .i64 t583)).setCell ⟨gb595, 2, none⟩ (.int .i64 t584)).setCell ⟨gb595, 3, none⟩ (.slice Ao65 t585.length co65)).setCell ⟨gb595, 4, none⟩ (.slice Ao67 t588.length co67)).setCell ⟨gb595, 5, none⟩ (.slice Ao69 t591.length co69)) w.heap.size (fun k_ => some k_ ≠ (.slice Ao65 t585.length co65 : Value).ownBlock ∧ some k_ ≠ (.slice Ao67 t588.length co67 : Value).ownBlock ∧ some k_ ≠ (.slice Ao69 t591.length co69 : Value).ownBlock ∧ k_ ≠ gb595) (.slice Ao56 x569000_2.length co56) x569000_2) := ⟨by (with_reducible repeat (first | apply Kd.S_alloc | apply Kd.S_drewN | apply Kd.S_drew)); exact Kd.S_mono (Kd.S_far (p := ⟨gb595, 5, none⟩) (Kd.S_far (p := ⟨gb595, 4, none⟩) (Kd.S_far (p := ⟨gb595, 3, none⟩) (Kd.S_far (p := ⟨gb595, 2, none⟩) (Kd.S_far (p := ⟨gb595, 1, none⟩) (Kd.S_far (p := ⟨gb595, 0, none⟩) (Kd.S_mono HO_569000.out (fun k_ hk => (⟨hk, hk.2.2.2⟩ : _ ∧ k_ ≠ gb595))) (fun _ hk => hk.2) (.int .i64 t582)) (fun _ hk => hk.2) (.int .i64 t583)) (fun _ hk => hk.2) (.int .i64 t584)) (fun _ hk => hk.2) (.slice Ao65 t585.length co65)) (fun _ hk => hk.2) (.slice Ao67 t588.length co67)) (fun _ hk => hk.2) (.slice Ao69 t591.length co69)) (fun _ hk => ⟨hk.1.1, ⟨hk.1.2.1, ⟨hk.1.2.2.1, hk.1.2.2.2⟩⟩⟩)⟩
                have n2_ : Aside0 (Kd.R (Kd.int .u8) 5 ((((((w61.setCell ⟨gb595, 0, none⟩ (.int .i64 t582)).setCell ⟨gb595, 1, none⟩ (.int .i64 t583)).setCell ⟨gb595, 2, none⟩ (.int .i64 t584)).setCell ⟨gb595, 3, none⟩ (.slice Ao65 t585.length co65)).setCell ⟨gb595, 4, none⟩ (.slice Ao67 t588.length co67)).setCell ⟨gb595, 5, none⟩ (.slice Ao69 t591.length co69)) w.heap.size (fun _ => True) (.slice Ao65 t585.length co65) t585) := ⟨by (with_reducible repeat (first | apply Kd.R_alloc | apply Kd.R_drewN | apply Kd.R_drew)); exact Kd.R_mono (Kd.R_far (p := ⟨gb595, 5, none⟩) (Kd.R_far (p := ⟨gb595, 4, none⟩) (Kd.R_far (p := ⟨gb595, 3, none⟩) (Kd.R_far (p := ⟨gb595, 2, none⟩) (Kd.R_far (p := ⟨gb595, 1, none⟩) (Kd.R_far (p := ⟨gb595, 0, none⟩) (Kd.R_types HO587.out BK595.out (by decide)) (fun _ hk => hk.2) (.int .i64 t582)) (fun _ hk => hk.2) (.int .i64 t583)) (fun _ hk => hk.2) (.int .i64 t584)) (fun _ hk => hk.2) (.slice Ao65 t585.length co65)) (fun _ hk => hk.2) (.slice Ao67 t588.length co67)) (fun _ hk => hk.2) (.slice Ao69 t591.length co69)) (fun _ hk => trivial)⟩
                have n3_ : Aside0 (Kd.R k65 65 ((((((w61.setCell ⟨gb595, 0, none⟩ (.int .i64 t582)).setCell ⟨gb595, 1, none⟩ (.int .i64 t583)).setCell ⟨gb595, 2, none⟩ (.int .i64 t584)).setCell ⟨gb595, 3, none⟩ (.slice Ao65 t585.length co65)).setCell ⟨gb595, 4, none⟩ (.slice Ao67 t588.length co67)).setCell ⟨gb595, 5, none⟩ (.slice Ao69 t591.length co69)) w.heap.size (fun _ => True) (.slice Ao67 t588.length co67) t588) := ⟨by (with_reducible repeat (first | apply Kd.R_alloc | apply Kd.R_drewN | apply Kd.R_drew)); exact Kd.R_mono (Kd.R_far (p := ⟨gb595, 5, none⟩) (Kd.R_far (p := ⟨gb595, 4, none⟩) (Kd.R_far (p := ⟨gb595, 3, none⟩) (Kd.R_far (p := ⟨gb595, 2, none⟩) (Kd.R_far (p := ⟨gb595, 1, none⟩) (Kd.R_far (p := ⟨gb595, 0, none⟩) (Kd.R_types HO590.out BK595.out (by decide)) (fun _ hk => hk.2) (.int .i64 t582)) (fun _ hk => hk.2) (.int .i64 t583)) (fun _ hk => hk.2) (.int .i64 t584)) (fun _ hk => hk.2) (.slice Ao65 t585.length co65)) (fun _ hk => hk.2) (.slice Ao67 t588.length co67)) (fun _ hk => hk.2) (.slice Ao69 t591.length co69)) (fun _ hk => trivial)⟩
                have n4_ : Aside0 (Kd.R k71 71 ((((((w61.setCell ⟨gb595, 0, none⟩ (.int .i64 t582)).setCell ⟨gb595, 1, none⟩ (.int .i64 t583)).setCell ⟨gb595, 2, none⟩ (.int .i64 t584)).setCell ⟨gb595, 3, none⟩ (.slice Ao65 t585.length co65)).setCell ⟨gb595, 4, none⟩ (.slice Ao67 t588.length co67)).setCell ⟨gb595, 5, none⟩ (.slice Ao69 t591.length co69)) w.heap.size (fun _ => True) (.slice Ao69 t591.length co69) t591) := ⟨by (with_reducible repeat (first | apply Kd.R_alloc | apply Kd.R_drewN | apply Kd.R_drew)); exact Kd.R_mono (Kd.R_far (p := ⟨gb595, 5, none⟩) (Kd.R_far (p := ⟨gb595, 4, none⟩) (Kd.R_far (p := ⟨gb595, 3, none⟩) (Kd.R_far (p := ⟨gb595, 2, none⟩) (Kd.R_far (p := ⟨gb595, 1, none⟩) (Kd.R_far (p := ⟨gb595, 0, none⟩) (Kd.R_types HO593.out BK595.out (by decide)) (fun _ hk => hk.2) (.int .i64 t582)) (fun _ hk => hk.2) (.int .i64 t583)) (fun _ hk => hk.2) (.int .i64 t584)) (fun _ hk => hk.2) (.slice Ao65 t585.length co65)) (fun _ hk => hk.2) (.slice Ao67 t588.length co67)) (fun _ hk => hk.2) (.slice Ao69 t591.length co69)) (fun _ hk => trivial)⟩
                have n5_ : Aside0 (((((((w61.setCell ⟨gb595, 0, none⟩ (.int .i64 t582)).setCell ⟨gb595, 1, none⟩ (.int .i64 t583)).setCell ⟨gb595, 2, none⟩ (.int .i64 t584)).setCell ⟨gb595, 3, none⟩ (.slice Ao65 t585.length co65)).setCell ⟨gb595, 4, none⟩ (.slice Ao67 t588.length co67)).setCell ⟨gb595, 5, none⟩ (.slice Ao69 t591.length co69)).heap[gb568]? = some (.cells #[.slice Ao56 x569000_2.length co56, .int .i64 x569001_2] 26 (0, 0))) := ⟨oF BK568⟩
                have n6_ : Aside0 (((((((w61.setCell ⟨gb595, 0, none⟩ (.int .i64 t582)).setCell ⟨gb595, 1, none⟩ (.int .i64 t583)).setCell ⟨gb595, 2, none⟩ (.int .i64 t584)).setCell ⟨gb595, 3, none⟩ (.slice Ao65 t585.length co65)).setCell ⟨gb595, 4, none⟩ (.slice Ao67 t588.length co67)).setCell ⟨gb595, 5, none⟩ (.slice Ao69 t591.length co69)).heap[gb595]? = some (.cells #[.int .i64 t582, .int .i64 t583, .int .i64 t584, .slice Ao65 t585.length co65, .slice Ao67 t588.length co67, .slice Ao69 t591.length co69] 51 (0, 0))) := ⟨oP BK595⟩
                have n7_ : Aside0 (Below w.heap.size w ((((((w61.setCell ⟨gb595, 0, none⟩ (.int .i64 t582)).setCell ⟨gb595, 1, none⟩ (.int .i64 t583)).setCell ⟨gb595, 2, none⟩ (.int .i64 t584)).setCell ⟨gb595, 3, none⟩ (.slice Ao65 t585.length co65)).setCell ⟨gb595, 4, none⟩ (.slice Ao67 t588.length co67)).setCell ⟨gb595, 5, none⟩ (.slice Ao69 t591.length co69))) := ⟨oB⟩
                (try clear HO_5)
                (try clear HO_569000)
                (try clear HO587)
                (try clear HO590)
                (try clear HO593)
                (try clear BK568)
                (try clear BK595)
                (try clear HB)
                generalize ((((((w61.setCell ⟨gb595, 0, none⟩ (.int .i64 t582)).setCell ⟨gb595, 1, none⟩ (.int .i64 t583)).setCell ⟨gb595, 2, none⟩ (.int .i64 t584)).setCell ⟨gb595, 3, none⟩ (.slice Ao65 t585.length co65)).setCell ⟨gb595, 4, none⟩ (.slice Ao67 t588.length co67)).setCell ⟨gb595, 5, none⟩ (.slice Ao69 t591.length co69)) = w71 at n0_ n1_ n2_ n3_ n4_ n5_ n6_ n7_ ⊢
                have HO_5 := n0_
                have HO_569000 := n1_
                have HO587 := n2_
                have HO590 := n3_
                have HO593 := n4_
                have BK568 := n5_
                have BK595 := n6_
                have HB := n7_
                clear n0_ n1_ n2_ n3_ n4_ n5_ n6_ n7_
                replace HO_5 := Aside0.mk (Kd.R_drew HO_5.out)
                replace HO_569000 := Aside0.mk (Kd.S_drew HO_569000.out)
                replace HO587 := Aside0.mk (Kd.R_drew HO587.out)
                replace HO590 := Aside0.mk (Kd.R_drew HO590.out)
                replace HO593 := Aside0.mk (Kd.R_drew HO593.out)
                replace BK568 := Aside0.mk (blk_drew BK568.out)
                replace BK595 := Aside0.mk (blk_drew BK595.out)
                replace HB := Aside0.mk (below_drew1 HB.out)
                have p596 : (0 ≤ ((ji44) : Int)) = True := oT
                have q596 : ((ji44) < (y569.length : Int)) = True := oT
                obtain ⟨ad596, e596, hx596_0⟩ := Kd.at_string (Kd.R_reads' HO_5.out).2.2 (ji44) oa oa
                obtain rfl : ad581 = ad596 := (by injection e596)
                refine st_ 15 (fun w' => w'.cell? ⟨gb568, 0, none⟩ = some (.slice Ao56 x569000_2.length co56) ∧ w'.cell? ⟨gb568, 1, none⟩ = some (.int .i64 x569001_2) ∧ w'.cell? (ad581.add ((ji44)).toNat) = some (.string (rdOf ByteArray.empty y569 (ji44)))) laws_FnLinkCount.tab18 laws_FnLinkCount.bits18 ⟨(blk_cell BK568.out 0).trans rfl, (blk_cell BK568.out 1).trans rfl, hx596_0⟩ (fun hHeld HT_ HW_ => ?_)
                generalize w71.drew = w72 at HO_5 HO_569000 HO587 HO590 HO593 BK568 BK595 HB hx596_0 hHeld ⊢
                refine pu_ 1 69 HT_ ?_
                refine pu_ 2 70 HT_ ?_
                refine pu_ 3 71 HT_ ?_
                refine pu_ 4 72 HT_ ?_
                refine pu_ 5 73 HT_ ?_
                refine pu_ 6 74 HT_ ?_
                refine ta_ 0 68 HT_ HW_ hHeld ?_
                refine ta_ 7 75 HT_ HW_ hHeld ?_
                refine join_ (σ := Value × Nat) 2 (lb 15 8191) (fun s_ => [(76, .tuple #[.agg #[s_.1, .int .i64 t600], .int .i64 t601]), (14, .pointer (some ⟨s_.2, 0, none⟩)), (67, .tuple #[.agg #[s_.1, .int .i64 t600], .int .i64 t601]), (77, .agg #[s_.1, .int .i64 t600]), (78, .int .i64 t601)]) (fun s_ w' => (w'.cell? ⟨gb568, 0, none⟩ = some (.slice Ao56 x569000_2.length co56) ∧ w'.cell? ⟨gb568, 1, none⟩ = some (.int .i64 x569001_2) ∧ w'.cell? (ad581.add ((ji44)).toNat) = some (.string (rdOf ByteArray.empty y569 (ji44)))) ∧ (Kd.R (Kd.int .u8) 5 w' w.heap.size (fun _ => True) (.slice Ao65 t585.length co65) t585) ∧ (Kd.R k65 65 w' w.heap.size (fun _ => True) (.slice Ao67 t588.length co67) t588) ∧ (Kd.R k71 71 w' w.heap.size (fun _ => True) (.slice Ao69 t591.length co69) t591) ∧ (Kd.S k51 51 w' w.heap.size (fun k_ => some k_ ≠ (.slice Ao65 t585.length co65 : Value).ownBlock ∧ some k_ ≠ (.slice Ao67 t588.length co67 : Value).ownBlock ∧ some k_ ≠ (.slice Ao69 t591.length co69 : Value).ownBlock ∧ some k_ ≠ (.slice Ao56 x569000_2.length co56 : Value).ownBlock ∧ k_ ≠ gb595) s_.1 t597) ∧ (Kd.R Kd.string 9 w' w.heap.size (fun _ => True) (.slice (some ad581) y569.length co58) y569) ∧ (Kd.S k51 51 w' w.heap.size (fun k_ => some k_ ≠ (.slice Ao65 t585.length co65 : Value).ownBlock ∧ some k_ ≠ (.slice Ao67 t588.length co67 : Value).ownBlock ∧ some k_ ≠ (.slice Ao69 t591.length co69 : Value).ownBlock ∧ some k_ ≠ (s_.1 : Value).ownBlock ∧ k_ ≠ gb595) (.slice Ao56 x569000_2.length co56) x569000_2) ∧ (w'.heap[gb568]? = some (.cells #[.slice Ao56 x569000_2.length co56, .int .i64 x569001_2] 26 (0, 0))) ∧ (w'.heap[gb595]? = some (.cells #[.int .i64 t582, .int .i64 t583, .int .i64 t584, .slice Ao65 t585.length co65, .slice Ao67 t588.length co67, .slice Ao69 t591.length co69] 51 (0, 0))) ∧ (w'.heap[s_.2]? = some (.cells #[.slice none 0 0, .int .i64 0] 26 (0, 0))) ∧ (w.heap.size ≤ s_.2) ∧ (w.heap.size ≤ s_.2) ∧ (gb568 ≠ s_.2) ∧ (s_.2 ≠ gb568) ∧ (gb595 ≠ s_.2) ∧ (s_.2 ≠ gb595) ∧ (Below w.heap.size w w')) ?_ ?_
                rotate_left
                ·intro hCont
                 refine two_ (i := 8) (j := 12) (Ni := some 76) (Nj := some 14) (lb 15 511) (lb 15 4351) rfl rfl rfl rfl (two_of HT_.out (by kernel_rfl)) (by decide) (by decide) (fun K hK => ?_) (fun K hK => ?_)
                 ·skip
                  refine goes_ Tryz.func29 (by kernel_rfl) rfl #[.agg #[.slice Ao56 x569000_2.length co56, .int .i64 x569001_2], .string (rdOf ByteArray.empty y569 (ji44))] (by rfl) rfl rfl (by (try simp only [List.map_toArray, List.map_cons, List.map_nil]); first | done | (simp only [hji44]; rfl) | rfl | (simp only [List.length_drop, List.length_take]; rfl)) ?_
                  with_reducible refine (impl_Unlink.calls k2 _ _ x569000_2 x569001_2 (rdOf ByteArray.empty y569 (ji44)) t597 t600 t601 _ (rcS0 HO_569000) (rnS HO_569000) A48.out).mono ?_
                  rintro e w73 ⟨v598, rfl, ho0, hb⟩
                  have HS2_ := (hb.cell (World.block_lt_of_cell? _ _ (hHeld.2.2))).trans (hHeld.2.2)
                  refine ⟨_, rfl, ?_⟩
                  have HO599 := Aside0.mk (Kd.S_lower (Kd.S_newB (Kd.S_new' (Kd.S_new' (Kd.S_new' (Kd.S_new' ho0 (ltS0 HO_569000)) (kl_ HO587)) (kl_ HO590)) (kl_ HO593)) (g := gb595) (o := .cells #[.int .i64 t582, .int .i64 t583, .int .i64 t584, .slice Ao65 t585.length co65, .slice Ao67 t588.length co67, .slice Ao69 t591.length co69] 51 (0, 0)) (oF BK595)) (below_size oB))
                  replace HO_5 := kr_ HO_5 hb
                  replace HO_569000 := elS0 HO_569000 (Kd.S_base ho0) hb
                  replace HO587 := kr_ HO587 hb
                  replace HO590 := kr_ HO590 hb
                  replace HO593 := kr_ HO593 hb
                  replace BK568 := kb_ BK568 hb
                  replace BK595 := kb_ BK595 hb
                  replace HB := Aside0.mk (below_step oB hb)
                  refine hk_ hK 76 ⟨(blk_cell BK568.out 0).trans rfl, (blk_cell BK568.out 1).trans rfl, HS2_⟩ (fun hHeld => ?_)
                  clear hK K
                  refine pu_ 9 67 HT_ ?_
                  refine pu_ 10 77 HT_ ?_
                  refine pu_ 11 78 HT_ ?_
                  refine on_ 12 14 HT_ (fun K hK => ?_)
                  refine box_step ?hg (N := 14) ?hd (cs := #[.slice none 0 0, .int .i64 0]) (t := 26) ?hr ?_; (case hd => rfl); (case hg => rfl); (case hr => first | (go_simp; done) | (go_simp; rfl))
                  intro gb602 hg w74 hbox hb
                  have HS2_ := (hb.cell (World.block_lt_of_cell? _ _ (hHeld.2.2))).trans (hHeld.2.2)
                  have BK602 := Aside0.mk (hbox)
                  have GW602 := gs_ hg
                  have GE602 := gs_ hg
                  have NB568_602 := nl_ hg BK568
                  have NB602_568 := nr_ hg BK568
                  have NB595_602 := nl_ hg BK595
                  have NB602_595 := nr_ hg BK595
                  replace HO_5 := kr_ HO_5 hb
                  replace HO_569000 := beS0 HO_569000 hb
                  replace HO587 := kr_ HO587 hb
                  replace HO590 := kr_ HO590 hb
                  replace HO593 := kr_ HO593 hb
                  replace HO599 := beS0 HO599 hb
                  replace BK568 := kb_ BK568 hb
                  replace BK595 := kb_ BK595 hb
                  replace HB := Aside0.mk (below_step oB hb)
                  clear hb hbox hg
                  refine hk_ hK 14 ⟨(blk_cell BK568.out 0).trans rfl, (blk_cell BK568.out 1).trans rfl, HS2_⟩ (fun hHeld => ?_)
                  clear hK K
                  exact norm_ (by simp only [putAll, Act.put, List.setIfInBounds_toArray, List.set_cons_zero, List.set_cons_succ]) (hCont (v598, gb602) _ ⟨hHeld, (oR HO587), (oR HO590), (oR HO593), (by (with_reducible repeat (first | apply Kd.S_alloc | apply Kd.S_drewN | apply Kd.S_drew)); exact Kd.S_mono HO599.out (fun _ hk => ⟨hk.1.1.1.2, ⟨hk.1.1.2, ⟨hk.1.2, ⟨hk.1.1.1.1.2, hk.2⟩⟩⟩⟩)), (oR HO_5), (by (with_reducible repeat (first | apply Kd.S_alloc | apply Kd.S_drewN | apply Kd.S_drew)); exact Kd.S_mono HO_569000.out (fun _ hk => ⟨hk.1.1, ⟨hk.1.2.1, ⟨hk.1.2.2.1, ⟨hk.2, hk.1.2.2.2⟩⟩⟩⟩)), (oF BK568), (oF BK595), (oF BK602), GW602.out, GE602.out, NB568_602.out, NB602_568.out, NB595_602.out, NB602_595.out, oB⟩)
                 ·skip
                  refine box_step ?hg (N := 14) ?hd (cs := #[.slice none 0 0, .int .i64 0]) (t := 26) ?hr ?_; (case hd => rfl); (case hg => rfl); (case hr => first | (go_simp; done) | (go_simp; rfl))
                  intro gb602 hg w73 hbox hb
                  have HS2_ := (hb.cell (World.block_lt_of_cell? _ _ (hHeld.2.2))).trans (hHeld.2.2)
                  have BK602 := Aside0.mk (hbox)
                  have GW602 := gs_ hg
                  have GE602 := gs_ hg
                  have NB568_602 := nl_ hg BK568
                  have NB602_568 := nr_ hg BK568
                  have NB595_602 := nl_ hg BK595
                  have NB602_595 := nr_ hg BK595
                  replace HO_5 := kr_ HO_5 hb
                  replace HO_569000 := beS0 HO_569000 hb
                  replace HO587 := kr_ HO587 hb
                  replace HO590 := kr_ HO590 hb
                  replace HO593 := kr_ HO593 hb
                  replace BK568 := kb_ BK568 hb
                  replace BK595 := kb_ BK595 hb
                  replace HB := Aside0.mk (below_step oB hb)
                  clear hb hbox hg
                  refine hk_ hK 14 ⟨(blk_cell BK568.out 0).trans rfl, (blk_cell BK568.out 1).trans rfl, HS2_⟩ (fun hHeld => ?_)
                  clear hK K
                  refine on_ 8 76 HT_ (fun K hK => ?_)
                  refine goes_ Tryz.func29 (by kernel_rfl) rfl #[.agg #[.slice Ao56 x569000_2.length co56, .int .i64 x569001_2], .string (rdOf ByteArray.empty y569 (ji44))] (by rfl) rfl rfl (by (try simp only [List.map_toArray, List.map_cons, List.map_nil]); first | done | (simp only [hji44]; rfl) | rfl | (simp only [List.length_drop, List.length_take]; rfl)) ?_
                  with_reducible refine (impl_Unlink.calls k2 _ _ x569000_2 x569001_2 (rdOf ByteArray.empty y569 (ji44)) t597 t600 t601 _ (rcS0 HO_569000) (rnS HO_569000) A48.out).mono ?_
                  rintro e w74 ⟨v598, rfl, ho0, hb⟩
                  have HS2_ := (hb.cell (World.block_lt_of_cell? _ _ (hHeld.2.2))).trans (hHeld.2.2)
                  refine ⟨_, rfl, ?_⟩
                  have HO599 := Aside0.mk (Kd.S_lower (Kd.S_newB (Kd.S_new' (Kd.S_new' (Kd.S_new' (Kd.S_new' ho0 (ltS0 HO_569000)) (kl_ HO587)) (kl_ HO590)) (kl_ HO593)) (g := gb595) (o := .cells #[.int .i64 t582, .int .i64 t583, .int .i64 t584, .slice Ao65 t585.length co65, .slice Ao67 t588.length co67, .slice Ao69 t591.length co69] 51 (0, 0)) (oF BK595)) (below_size oB))
                  replace HO_5 := kr_ HO_5 hb
                  replace HO_569000 := elS0 HO_569000 (Kd.S_base ho0) hb
                  replace HO587 := kr_ HO587 hb
                  replace HO590 := kr_ HO590 hb
                  replace HO593 := kr_ HO593 hb
                  replace BK568 := kb_ BK568 hb
                  replace BK595 := kb_ BK595 hb
                  replace BK602 := kb_ BK602 hb
                  replace HB := Aside0.mk (below_step oB hb)
                  refine hk_ hK 76 ⟨(blk_cell BK568.out 0).trans rfl, (blk_cell BK568.out 1).trans rfl, HS2_⟩ (fun hHeld => ?_)
                  clear hK K
                  refine pu_ 9 67 HT_ ?_
                  refine pu_ 10 77 HT_ ?_
                  refine pu_ 11 78 HT_ ?_
                  exact norm_ (by simp only [putAll, Act.put, List.setIfInBounds_toArray, List.set_cons_zero, List.set_cons_succ]) (hCont (v598, gb602) _ ⟨hHeld, (oR HO587), (oR HO590), (oR HO593), (by (with_reducible repeat (first | apply Kd.S_alloc | apply Kd.S_drewN | apply Kd.S_drew)); exact Kd.S_mono HO599.out (fun _ hk => ⟨hk.1.1.1.2, ⟨hk.1.1.2, ⟨hk.1.2, ⟨hk.1.1.1.1.2, hk.2⟩⟩⟩⟩)), (oR HO_5), (by (with_reducible repeat (first | apply Kd.S_alloc | apply Kd.S_drewN | apply Kd.S_drew)); exact Kd.S_mono HO_569000.out (fun _ hk => ⟨hk.1.1, ⟨hk.1.2.1, ⟨hk.1.2.2.1, ⟨hk.2, hk.1.2.2.2⟩⟩⟩⟩)), (oF BK568), (oF BK595), (oF BK602), GW602.out, GE602.out, NB568_602.out, NB602_568.out, NB595_602.out, NB602_595.out, oB⟩)
                rintro ⟨v598, gb602⟩ w75 ⟨hS_, h0_, h1_, h2_, h3_, h4_, h5_, h6_, h7_, h8_, h9_, h10_, h11_, h12_, h13_, h14_, h15_⟩
                have n0_ : Aside0 (Kd.R (Kd.int .u8) 5 w75 w.heap.size (fun _ => True) (.slice Ao65 t585.length co65) t585) := ⟨h0_⟩
                have n1_ : Aside0 (Kd.R k65 65 w75 w.heap.size (fun _ => True) (.slice Ao67 t588.length co67) t588) := ⟨h1_⟩
                have n2_ : Aside0 (Kd.R k71 71 w75 w.heap.size (fun _ => True) (.slice Ao69 t591.length co69) t591) := ⟨h2_⟩
                have n3_ : Aside0 (Kd.S k51 51 w75 w.heap.size (fun k_ => some k_ ≠ (.slice Ao65 t585.length co65 : Value).ownBlock ∧ some k_ ≠ (.slice Ao67 t588.length co67 : Value).ownBlock ∧ some k_ ≠ (.slice Ao69 t591.length co69 : Value).ownBlock ∧ some k_ ≠ (.slice Ao56 x569000_2.length co56 : Value).ownBlock ∧ k_ ≠ gb595) v598 t597) := ⟨h3_⟩
                have n4_ : Aside0 (Kd.R Kd.string 9 w75 w.heap.size (fun _ => True) (.slice (some ad581) y569.length co58) y569) := ⟨h4_⟩
                have n5_ : Aside0 (Kd.S k51 51 w75 w.heap.size (fun k_ => some k_ ≠ (.slice Ao65 t585.length co65 : Value).ownBlock ∧ some k_ ≠ (.slice Ao67 t588.length co67 : Value).ownBlock ∧ some k_ ≠ (.slice Ao69 t591.length co69 : Value).ownBlock ∧ some k_ ≠ (v598 : Value).ownBlock ∧ k_ ≠ gb595) (.slice Ao56 x569000_2.length co56) x569000_2) := ⟨h5_⟩
                have n6_ : Aside0 (w75.heap[gb568]? = some (.cells #[.slice Ao56 x569000_2.length co56, .int .i64 x569001_2] 26 (0, 0))) := ⟨h6_⟩
                have n7_ : Aside0 (w75.heap[gb595]? = some (.cells #[.int .i64 t582, .int .i64 t583, .int .i64 t584, .slice Ao65 t585.length co65, .slice Ao67 t588.length co67, .slice Ao69 t591.length co69] 51 (0, 0))) := ⟨h7_⟩
                have n8_ : Aside0 (w75.heap[gb602]? = some (.cells #[.slice none 0 0, .int .i64 0] 26 (0, 0))) := ⟨h8_⟩
                have n9_ : Aside0 (w.heap.size ≤ gb602) := ⟨h9_⟩
                have n10_ : Aside0 (w.heap.size ≤ gb602) := ⟨h10_⟩
                have n11_ : Aside0 (gb568 ≠ gb602) := ⟨h11_⟩
                have n12_ : Aside0 (gb602 ≠ gb568) := ⟨h12_⟩
                have n13_ : Aside0 (gb595 ≠ gb602) := ⟨h13_⟩
                have n14_ : Aside0 (gb602 ≠ gb595) := ⟨h14_⟩
                have n15_ : Aside0 (Below w.heap.size w w75) := ⟨h15_⟩
                clear HO_5
                clear HO_569000
                clear HO587
                clear HO590
                clear HO593
                clear BK568
                clear BK595
                clear HB
                clear h0_ h1_ h2_ h3_ h4_ h5_ h6_ h7_ h8_ h9_ h10_ h11_ h12_ h13_ h14_ h15_
                have HO587 := n0_
                have HO590 := n1_
                have HO593 := n2_
                have HO599 := n3_
                have HO_5 := n4_
                have HO_569000 := n5_
                have BK568 := n6_
                have BK595 := n7_
                have BK602 := n8_
                have GW602 := n9_
                have GE602 := n10_
                have NB568_602 := n11_
                have NB602_568 := n12_
                have NB595_602 := n13_
                have NB602_595 := n14_
                have HB := n15_
                clear n0_ n1_ n2_ n3_ n4_ n5_ n6_ n7_ n8_ n9_ n10_ n11_ n12_ n13_ n14_ n15_
                have hHeld : w75.cell? ⟨gb568, 0, none⟩ = some (.slice Ao56 x569000_2.length co56) ∧ w75.cell? ⟨gb568, 1, none⟩ = some (.int .i64 x569001_2) ∧ w75.cell? (ad581.add ((ji44)).toNat) = some (.string (rdOf ByteArray.empty y569 (ji44))) := hS_
                obtain ⟨Ao76, co76, eo76⟩ := Kd.S_slice HO599.out
                (first | subst eo76 | (injection eo76 with f1_ f2_ f3_; have f4_ := f1_.symm; have f5_ := f3_.symm; clear f1_ f2_ f3_; subst f4_; subst f5_))
                refine norm_ (a' := ?_) ?_ ?_
                rotate_left
                ·simp only [putAll, Act.put, List.setIfInBounds_toArray, List.set_cons_zero, List.set_cons_succ]
                 rfl
                refine one_ (i := 13) (N := none) (lb 15 16383) rfl rfl (one_of HT_.out (by kernel_rfl)) (by decide) (fun K hK => ?_)
                have hs77 : w75.cell? ⟨gb602, 0, none⟩ = some (.slice none 0 0) := (blk_cell BK602.out 0).trans rfl
                have hfs77 := blk_frozen BK602.out 0
                have hns77_0 := NB568_602.out
                have hns77_1 := NB595_602.out
                have hms77_0 := NB602_568.out
                have hms77_1 := NB602_595.out
                have hs78 : w75.cell? ⟨gb602, 1, none⟩ = some (.int .i64 0) := (blk_cell BK602.out 1).trans rfl
                have hfs78 := blk_frozen BK602.out 1
                have hns78_0 := NB568_602.out
                have hns78_1 := NB595_602.out
                have hms78_0 := NB602_568.out
                have hms78_1 := NB602_595.out
                refine skip_ (w1 := ?_) (by rfl) rfl ?_ ?_
                rotate_left
                ·go_simp
                 rfl
                refine hK.out _ _ ⟨((cell_far (p := ⟨gb602, _, none⟩) NB568_602.out _).trans (((cell_far (p := ⟨gb602, _, none⟩) NB568_602.out _).trans (hHeld.1)))), ((cell_far (p := ⟨gb602, _, none⟩) NB568_602.out _).trans (((cell_far (p := ⟨gb602, _, none⟩) NB568_602.out _).trans (hHeld.2.1)))), ((cell_far (p := ⟨gb602, _, none⟩) (by first | exact Kd.own_blk (Kd.R_ne HO_5.out BK602.out (by decide)) | (rw [add_block]; exact Kd.own_blk (Kd.R_ne HO_5.out BK602.out (by decide))) | (show (Addr.add _ _).block ≠ _; rw [add_block]; exact Kd.own_blk (Kd.R_ne HO_5.out BK602.out (by decide))) | (dsimp only; exact Kd.own_blk (Kd.R_ne HO_5.out BK602.out (by decide)))) _).trans (((cell_far (p := ⟨gb602, _, none⟩) (by first | exact Kd.own_blk (Kd.R_ne HO_5.out BK602.out (by decide)) | (rw [add_block]; exact Kd.own_blk (Kd.R_ne HO_5.out BK602.out (by decide))) | (show (Addr.add _ _).block ≠ _; rw [add_block]; exact Kd.own_blk (Kd.R_ne HO_5.out BK602.out (by decide))) | (dsimp only; exact Kd.own_blk (Kd.R_ne HO_5.out BK602.out (by decide)))) _).trans (hHeld.2.2))))⟩ (fun hHeld => ?_)
                clear hK K
                refine pu_ 14 15 HT_ ?_
                refine dn_ HT_ ?_
                have hnb79 := NB595_568.out
                have hnc79 := NB568_595.out
                have hnb80 := NB595_602.out
                have hnc80 := NB602_595.out
                obtain ⟨⟨_, _, _, _, _, _⟩, _, _, _, _, _, _⟩ := z6 BK595
                have hnb82 := NB602_568.out
                have hnc82 := NB568_602.out
                obtain ⟨⟨_, _⟩, _, _⟩ := z2 BK602
                try go_wp2_with (first | (go_at_call 17; (with_reducible refine (impl_TreeOk.calls k2 _ _ t597 t600 true _ (rcS1 HO599 BK602) (rnS HO599) A54.out).mono ?_); rintro e w84 ⟨rfl, hb⟩; replace HO_5 := beR1 HO_5 BK602 hb; replace HO_569000 := beS1 HO_569000 BK602 hb; replace HO587 := beR1 HO587 BK602 hb; replace HO590 := beR1 HO590 BK602 hb; replace HO593 := beR1 HO593 BK602 hb; replace HO599 := beS1 HO599 BK602 hb; replace BK568 := kb_ BK568 hb; replace BK595 := kb_ BK595 hb; replace BK602 := kp_ #[.slice Ao76 t597.length co76, .int .i64 t600] BK602 hb; replace HB := Aside0.mk (below_step oB hb); (try clear hk); obtain ⟨⟨_, _⟩, _, _⟩ := z2 BK602; obtain ⟨⟨_, _⟩, _, _⟩ := z2 BK568))
                go_roundg k2
                case measure => have := HK1.out; have := HK2.out; omega
                case rel => exact ⟨(wrap64 (x11_2 + 1)), (t597), (t600), (.slice Ao76 t597.length co76), oS, H', ⟨by have := HK1.out; have := HK2.out; omega⟩, ⟨by (with_reducible repeat (first | apply Kd.R_alloc | apply Kd.R_drewN | apply Kd.R_drew)); exact Kd.R_mono (Kd.R_far (p := ⟨gb568, 1, none⟩) (Kd.R_far (p := ⟨gb568, 0, none⟩) (Kd.R_types HO_5.out BK568.out (by decide)) (fun _ hk => hk.2) (.slice Ao76 t597.length co76)) (fun _ hk => hk.2) (.int .i64 t600)) (fun _ hk => trivial)⟩, ⟨by (with_reducible repeat (first | apply Kd.S_alloc | apply Kd.S_drewN | apply Kd.S_drew)); exact Kd.S_mono (Kd.S_far (p := ⟨gb568, 1, none⟩) (Kd.S_far (p := ⟨gb568, 0, none⟩) (Kd.S_types HO599.out BK568.out (by decide)) (fun _ hk => hk.2) (.slice Ao76 t597.length co76)) (fun _ hk => hk.2) (.int .i64 t600)) (fun _ hk => trivial)⟩, ⟨oP BK568⟩, ⟨oB⟩⟩
               ·cases H
              ·rw [if_neg c53] at H
               cases H
             ·replace H := bA H
              obtain ⟨t604, A144, H⟩ := H
              try dsimp only at H
              replace H := itB H
              rcases H with ⟨rfl, H⟩ | ⟨rfl, H⟩
              ·have H' := Aside0.mk H
               clear H
               obtain ⟨Ao146, co146, eo146⟩ := Kd.S_slice HO_569000.out
               subst eo146
               try go_wp2
               replace HO_5 := Aside0.mk (Kd.R_drew HO_5.out)
               replace HO_569000 := Aside0.mk (Kd.S_drew HO_569000.out)
               replace BK568 := Aside0.mk (blk_drew BK568.out)
               replace HB := Aside0.mk (below_drew1 HB.out)
               obtain ⟨Ao148, co148, eo148⟩ := Kd.R_slice HO_5.out
               (first | subst eo148 | (injection eo148 with f1_ f2_ f3_; have f4_ := f1_.symm; have f5_ := f3_.symm; clear f1_ f2_ f3_; subst f4_; subst f5_))
               have p581 : (0 ≤ ((ji44) : Int)) = True := oT
               have q581 : ((ji44) < (y569.length : Int)) = True := oT
               obtain ⟨ad581, e581, hx581_0⟩ := Kd.at_string (Kd.R_reads' HO_5.out).2.2 (ji44) oa oa
               cases e581
               refine st_ 15 (fun w' => w'.cell? ⟨gb568, 0, none⟩ = some (.slice Ao146 x569000_2.length co146) ∧ w'.cell? ⟨gb568, 1, none⟩ = some (.int .i64 x569001_2) ∧ w'.cell? (ad581.add ((ji44)).toNat) = some (.string (rdOf ByteArray.empty y569 (ji44)))) laws_FnLinkCount.tab17 laws_FnLinkCount.bits17 ⟨(blk_cell BK568.out 0).trans rfl, (blk_cell BK568.out 1).trans rfl, hx581_0⟩ (fun hHeld HT_ HW_ => ?_)
               generalize wr.drew = w147 at HO_5 HO_569000 BK568 HB hx581_0 hHeld ⊢
               refine pu_ 1 57 HT_ ?_
               refine pu_ 2 58 HT_ ?_
               refine pu_ 3 59 HT_ ?_
               refine pu_ 4 60 HT_ ?_
               refine pu_ 5 61 HT_ ?_
               refine pu_ 6 62 HT_ ?_
               refine ta_ 0 56 HT_ HW_ hHeld ?_
               refine ta_ 7 63 HT_ HW_ hHeld ?_
               refine join_ (σ := Value × Value × Value × Nat) 2 (lb 15 8191) (fun s_ => [(64, .tuple #[.agg #[.int .i64 t582, .int .i64 t583, .int .i64 t584, s_.1, s_.2.1, s_.2.2.1], .int .i64 t594]), (12, .pointer (some ⟨s_.2.2.2, 0, none⟩)), (55, .tuple #[.agg #[.int .i64 t582, .int .i64 t583, .int .i64 t584, s_.1, s_.2.1, s_.2.2.1], .int .i64 t594]), (65, .agg #[.int .i64 t582, .int .i64 t583, .int .i64 t584, s_.1, s_.2.1, s_.2.2.1]), (66, .int .i64 t594)]) (fun s_ w' => (w'.cell? ⟨gb568, 0, none⟩ = some (.slice Ao146 x569000_2.length co146) ∧ w'.cell? ⟨gb568, 1, none⟩ = some (.int .i64 x569001_2) ∧ w'.cell? (ad581.add ((ji44)).toNat) = some (.string (rdOf ByteArray.empty y569 (ji44)))) ∧ (Kd.R (Kd.int .u8) 5 w' w.heap.size (fun _ => True) s_.1 t585) ∧ (Kd.R k65 65 w' w.heap.size (fun _ => True) s_.2.1 t588) ∧ (Kd.R k71 71 w' w.heap.size (fun _ => True) s_.2.2.1 t591) ∧ (Kd.R Kd.string 9 w' w.heap.size (fun _ => True) (.slice (some ad581) y569.length co148) y569) ∧ (Kd.S k51 51 w' w.heap.size (fun k_ => some k_ ≠ (s_.1 : Value).ownBlock ∧ some k_ ≠ (s_.2.1 : Value).ownBlock ∧ some k_ ≠ (s_.2.2.1 : Value).ownBlock ∧ k_ ≠ s_.2.2.2) (.slice Ao146 x569000_2.length co146) x569000_2) ∧ (w'.heap[gb568]? = some (.cells #[.slice Ao146 x569000_2.length co146, .int .i64 x569001_2] 26 (0, 0))) ∧ (w'.heap[s_.2.2.2]? = some (.cells #[.int .i64 0, .int .i64 0, .int .i64 0, .slice none 0 0, .slice none 0 0, .slice none 0 0] 51 (0, 0))) ∧ (w.heap.size ≤ s_.2.2.2) ∧ (w.heap.size ≤ s_.2.2.2) ∧ (gb568 ≠ s_.2.2.2) ∧ (s_.2.2.2 ≠ gb568) ∧ (Below w.heap.size w w')) ?_ ?_
               rotate_left
               ·intro hCont
                refine two_ (i := 8) (j := 12) (Ni := some 64) (Nj := some 12) (lb 15 511) (lb 15 4351) rfl rfl rfl rfl (two_of HT_.out (by kernel_rfl)) (by decide) (by decide) (fun K hK => ?_) (fun K hK => ?_)
                ·skip
                 refine goes_ Tryz.func28 (by kernel_rfl) rfl #[.agg #[.slice Ao146 x569000_2.length co146, .int .i64 x569001_2], .string (rdOf ByteArray.empty y569 (ji44))] (by rfl) rfl rfl (by (try simp only [List.map_toArray, List.map_cons, List.map_nil]); first | done | (simp only [hji44]; rfl) | rfl | (simp only [List.length_drop, List.length_take]; rfl)) ?_
                 with_reducible refine (impl_Stat.calls k2 _ _ x569000_2 x569001_2 (rdOf ByteArray.empty y569 (ji44)) t582 t583 t584 t585 t588 t591 t594 _ (rcS0 HO_569000) (rnS HO_569000) A47.out).mono ?_
                 rintro e w149 ⟨v586, v589, v592, rfl, ho0, ho1, ho2, hb⟩
                 have HS2_ := (hb.cell (World.block_lt_of_cell? _ _ (hHeld.2.2))).trans (hHeld.2.2)
                 refine ⟨_, rfl, ?_⟩
                 have HO587 := Aside0.mk (Kd.R_lower ho0 (below_size oB))
                 have HO590 := Aside0.mk (Kd.R_lower ho1 (below_size oB))
                 have HO593 := Aside0.mk (Kd.R_lower ho2 (below_size oB))
                 replace HO_5 := kr_ HO_5 hb
                 replace HO_569000 := tdS3 (olS0 HO_569000 hb) (Kd.R_base ho0) (Kd.R_base ho1) (Kd.R_base ho2)
                 replace BK568 := kb_ BK568 hb
                 replace HB := Aside0.mk (below_step oB hb)
                 (try clear ho1)
                 (try clear ho2)
                 refine hk_ hK 64 ⟨(blk_cell BK568.out 0).trans rfl, (blk_cell BK568.out 1).trans rfl, HS2_⟩ (fun hHeld => ?_)
                 clear hK K
                 refine pu_ 9 55 HT_ ?_
                 refine pu_ 10 65 HT_ ?_
                 refine pu_ 11 66 HT_ ?_
                 refine on_ 12 12 HT_ (fun K hK => ?_)
                 refine box_step ?hg (N := 12) ?hd (cs := #[.int .i64 0, .int .i64 0, .int .i64 0, .slice none 0 0, .slice none 0 0, .slice none 0 0]) (t := 51) ?hr ?_; (case hd => rfl); (case hg => rfl); (case hr => first | (go_simp; done) | (go_simp; rfl))
                 intro gb595 hg w150 hbox hb
                 have HS2_ := (hb.cell (World.block_lt_of_cell? _ _ (hHeld.2.2))).trans (hHeld.2.2)
                 have BK595 := Aside0.mk (hbox)
                 have GW595 := gs_ hg
                 have GE595 := gs_ hg
                 have NB568_595 := nl_ hg BK568
                 have NB595_568 := nr_ hg BK568
                 replace HO_5 := kr_ HO_5 hb
                 replace HO_569000 := Aside0.mk (Kd.S_below (Kd.S_elderB (nS0 HO_569000) gb595 (Nat.le_of_eq hg.symm)) hb)
                 replace HO587 := kr_ HO587 hb
                 replace HO590 := kr_ HO590 hb
                 replace HO593 := kr_ HO593 hb
                 replace BK568 := kb_ BK568 hb
                 replace HB := Aside0.mk (below_step oB hb)
                 clear hb hbox hg
                 refine hk_ hK 12 ⟨(blk_cell BK568.out 0).trans rfl, (blk_cell BK568.out 1).trans rfl, HS2_⟩ (fun hHeld => ?_)
                 clear hK K
                 exact norm_ (by simp only [putAll, Act.put, List.setIfInBounds_toArray, List.set_cons_zero, List.set_cons_succ]) (hCont (v586, v589, v592, gb595) _ ⟨hHeld, (oR HO587), (oR HO590), (oR HO593), (oR HO_5), (by (with_reducible repeat (first | apply Kd.S_alloc | apply Kd.S_drewN | apply Kd.S_drew)); exact Kd.S_mono HO_569000.out (fun _ hk => ⟨hk.1.1.1.2, ⟨hk.1.1.2, ⟨hk.1.2, hk.2⟩⟩⟩)), (oF BK568), (oF BK595), GW595.out, GE595.out, NB568_595.out, NB595_568.out, oB⟩)
                ·skip
                 refine box_step ?hg (N := 12) ?hd (cs := #[.int .i64 0, .int .i64 0, .int .i64 0, .slice none 0 0, .slice none 0 0, .slice none 0 0]) (t := 51) ?hr ?_; (case hd => rfl); (case hg => rfl); (case hr => first | (go_simp; done) | (go_simp; rfl))
                 intro gb595 hg w149 hbox hb
                 have HS2_ := (hb.cell (World.block_lt_of_cell? _ _ (hHeld.2.2))).trans (hHeld.2.2)
                 have BK595 := Aside0.mk (hbox)
                 have GW595 := gs_ hg
                 have GE595 := gs_ hg
                 have NB568_595 := nl_ hg BK568
                 have NB595_568 := nr_ hg BK568
                 replace HO_5 := kr_ HO_5 hb
                 replace HO_569000 := Aside0.mk (Kd.S_below (Kd.S_elderB (nS0 HO_569000) gb595 (Nat.le_of_eq hg.symm)) hb)
                 replace BK568 := kb_ BK568 hb
                 replace HB := Aside0.mk (below_step oB hb)
                 clear hb hbox hg
                 refine hk_ hK 12 ⟨(blk_cell BK568.out 0).trans rfl, (blk_cell BK568.out 1).trans rfl, HS2_⟩ (fun hHeld => ?_)
                 clear hK K
                 refine on_ 8 64 HT_ (fun K hK => ?_)
                 refine goes_ Tryz.func28 (by kernel_rfl) rfl #[.agg #[.slice Ao146 x569000_2.length co146, .int .i64 x569001_2], .string (rdOf ByteArray.empty y569 (ji44))] (by rfl) rfl rfl (by (try simp only [List.map_toArray, List.map_cons, List.map_nil]); first | done | (simp only [hji44]; rfl) | rfl | (simp only [List.length_drop, List.length_take]; rfl)) ?_
                 with_reducible refine (impl_Stat.calls k2 _ _ x569000_2 x569001_2 (rdOf ByteArray.empty y569 (ji44)) t582 t583 t584 t585 t588 t591 t594 _ (rcS0 HO_569000) (rnS HO_569000) A47.out).mono ?_
                 rintro e w150 ⟨v586, v589, v592, rfl, ho0, ho1, ho2, hb⟩
                 have HS2_ := (hb.cell (World.block_lt_of_cell? _ _ (hHeld.2.2))).trans (hHeld.2.2)
                 refine ⟨_, rfl, ?_⟩
                 have HO587 := Aside0.mk (Kd.R_lower ho0 (below_size oB))
                 have HO590 := Aside0.mk (Kd.R_lower ho1 (below_size oB))
                 have HO593 := Aside0.mk (Kd.R_lower ho2 (below_size oB))
                 replace HO_5 := kr_ HO_5 hb
                 replace HO_569000 := tdS3 (olS0 HO_569000 hb) (Kd.R_base ho0) (Kd.R_base ho1) (Kd.R_base ho2)
                 replace BK568 := kb_ BK568 hb
                 replace BK595 := kb_ BK595 hb
                 replace HB := Aside0.mk (below_step oB hb)
                 (try clear ho1)
                 (try clear ho2)
                 refine hk_ hK 64 ⟨(blk_cell BK568.out 0).trans rfl, (blk_cell BK568.out 1).trans rfl, HS2_⟩ (fun hHeld => ?_)
                 clear hK K
                 refine pu_ 9 55 HT_ ?_
                 refine pu_ 10 65 HT_ ?_
                 refine pu_ 11 66 HT_ ?_
                 exact norm_ (by simp only [putAll, Act.put, List.setIfInBounds_toArray, List.set_cons_zero, List.set_cons_succ]) (hCont (v586, v589, v592, gb595) _ ⟨hHeld, (oR HO587), (oR HO590), (oR HO593), (oR HO_5), (by (with_reducible repeat (first | apply Kd.S_alloc | apply Kd.S_drewN | apply Kd.S_drew)); exact Kd.S_mono HO_569000.out (fun _ hk => ⟨hk.1.1.2, ⟨hk.1.2, ⟨hk.2, hk.1.1.1.2⟩⟩⟩)), (oF BK568), (oF BK595), GW595.out, GE595.out, NB568_595.out, NB595_568.out, oB⟩)
               rintro ⟨v586, v589, v592, gb595⟩ w151 ⟨hS_, h0_, h1_, h2_, h3_, h4_, h5_, h6_, h7_, h8_, h9_, h10_, h11_⟩
               have n0_ : Aside0 (Kd.R (Kd.int .u8) 5 w151 w.heap.size (fun _ => True) v586 t585) := ⟨h0_⟩
               have n1_ : Aside0 (Kd.R k65 65 w151 w.heap.size (fun _ => True) v589 t588) := ⟨h1_⟩
               have n2_ : Aside0 (Kd.R k71 71 w151 w.heap.size (fun _ => True) v592 t591) := ⟨h2_⟩
               have n3_ : Aside0 (Kd.R Kd.string 9 w151 w.heap.size (fun _ => True) (.slice (some ad581) y569.length co148) y569) := ⟨h3_⟩
               have n4_ : Aside0 (Kd.S k51 51 w151 w.heap.size (fun k_ => some k_ ≠ (v586 : Value).ownBlock ∧ some k_ ≠ (v589 : Value).ownBlock ∧ some k_ ≠ (v592 : Value).ownBlock ∧ k_ ≠ gb595) (.slice Ao146 x569000_2.length co146) x569000_2) := ⟨h4_⟩
               have n5_ : Aside0 (w151.heap[gb568]? = some (.cells #[.slice Ao146 x569000_2.length co146, .int .i64 x569001_2] 26 (0, 0))) := ⟨h5_⟩
               have n6_ : Aside0 (w151.heap[gb595]? = some (.cells #[.int .i64 0, .int .i64 0, .int .i64 0, .slice none 0 0, .slice none 0 0, .slice none 0 0] 51 (0, 0))) := ⟨h6_⟩
               have n7_ : Aside0 (w.heap.size ≤ gb595) := ⟨h7_⟩
               have n8_ : Aside0 (w.heap.size ≤ gb595) := ⟨h8_⟩
               have n9_ : Aside0 (gb568 ≠ gb595) := ⟨h9_⟩
               have n10_ : Aside0 (gb595 ≠ gb568) := ⟨h10_⟩
               have n11_ : Aside0 (Below w.heap.size w w151) := ⟨h11_⟩
               clear HO_5
               clear HO_569000
               clear BK568
               clear HB
               clear h0_ h1_ h2_ h3_ h4_ h5_ h6_ h7_ h8_ h9_ h10_ h11_
               have HO587 := n0_
               have HO590 := n1_
               have HO593 := n2_
               have HO_5 := n3_
               have HO_569000 := n4_
               have BK568 := n5_
               have BK595 := n6_
               have GW595 := n7_
               have GE595 := n8_
               have NB568_595 := n9_
               have NB595_568 := n10_
               have HB := n11_
               clear n0_ n1_ n2_ n3_ n4_ n5_ n6_ n7_ n8_ n9_ n10_ n11_
               have hHeld : w151.cell? ⟨gb568, 0, none⟩ = some (.slice Ao146 x569000_2.length co146) ∧ w151.cell? ⟨gb568, 1, none⟩ = some (.int .i64 x569001_2) ∧ w151.cell? (ad581.add ((ji44)).toNat) = some (.string (rdOf ByteArray.empty y569 (ji44))) := hS_
               obtain ⟨Ao155, co155, eo155⟩ := Kd.R_slice HO587.out
               (first | subst eo155 | (injection eo155 with f1_ f2_ f3_; have f4_ := f1_.symm; have f5_ := f3_.symm; clear f1_ f2_ f3_; subst f4_; subst f5_))
               obtain ⟨Ao157, co157, eo157⟩ := Kd.R_slice HO590.out
               (first | subst eo157 | (injection eo157 with f1_ f2_ f3_; have f4_ := f1_.symm; have f5_ := f3_.symm; clear f1_ f2_ f3_; subst f4_; subst f5_))
               obtain ⟨Ao159, co159, eo159⟩ := Kd.R_slice HO593.out
               (first | subst eo159 | (injection eo159 with f1_ f2_ f3_; have f4_ := f1_.symm; have f5_ := f3_.symm; clear f1_ f2_ f3_; subst f4_; subst f5_))
               refine norm_ (a' := ?_) ?_ ?_
               rotate_left
               ·simp only [putAll, Act.put, List.setIfInBounds_toArray, List.set_cons_zero, List.set_cons_succ]
                rfl
               refine one_ (i := 13) (N := none) (lb 15 16383) rfl rfl (one_of HT_.out (by kernel_rfl)) (by decide) (fun K hK => ?_)
               have hs152 : w151.cell? ⟨gb595, 0, none⟩ = some (.int .i64 0) := (blk_cell BK595.out 0).trans rfl
               have hfs152 := blk_frozen BK595.out 0
               have hns152_0 := NB568_595.out
               have hms152_0 := NB595_568.out
               have hs153 : w151.cell? ⟨gb595, 1, none⟩ = some (.int .i64 0) := (blk_cell BK595.out 1).trans rfl
               have hfs153 := blk_frozen BK595.out 1
               have hns153_0 := NB568_595.out
               have hms153_0 := NB595_568.out
               have hs154 : w151.cell? ⟨gb595, 2, none⟩ = some (.int .i64 0) := (blk_cell BK595.out 2).trans rfl
               have hfs154 := blk_frozen BK595.out 2
               have hns154_0 := NB568_595.out
               have hms154_0 := NB595_568.out
               have hs156 : w151.cell? ⟨gb595, 3, none⟩ = some (.slice none 0 0) := (blk_cell BK595.out 3).trans rfl
               have hfs156 := blk_frozen BK595.out 3
               have hns156_0 := NB568_595.out
               have hms156_0 := NB595_568.out
               have hs158 : w151.cell? ⟨gb595, 4, none⟩ = some (.slice none 0 0) := (blk_cell BK595.out 4).trans rfl
               have hfs158 := blk_frozen BK595.out 4
               have hns158_0 := NB568_595.out
               have hms158_0 := NB595_568.out
               have hs160 : w151.cell? ⟨gb595, 5, none⟩ = some (.slice none 0 0) := (blk_cell BK595.out 5).trans rfl
               have hfs160 := blk_frozen BK595.out 5
               have hns160_0 := NB568_595.out
               have hms160_0 := NB595_568.out
               refine skip_ (w1 := ?_) (by rfl) rfl ?_ ?_
               rotate_left
               ·go_simp
                rfl
               refine hK.out _ _ ⟨((cell_far (p := ⟨gb595, _, none⟩) NB568_595.out _).trans (((cell_far (p := ⟨gb595, _, none⟩) NB568_595.out _).trans (((cell_far (p := ⟨gb595, _, none⟩) NB568_595.out _).trans (((cell_far (p := ⟨gb595, _, none⟩) NB568_595.out _).trans (((cell_far (p := ⟨gb595, _, none⟩) NB568_595.out _).trans (((cell_far (p := ⟨gb595, _, none⟩) NB568_595.out _).trans (hHeld.1)))))))))))), ((cell_far (p := ⟨gb595, _, none⟩) NB568_595.out _).trans (((cell_far (p := ⟨gb595, _, none⟩) NB568_595.out _).trans (((cell_far (p := ⟨gb595, _, none⟩) NB568_595.out _).trans (((cell_far (p := ⟨gb595, _, none⟩) NB568_595.out _).trans (((cell_far (p := ⟨gb595, _, none⟩) NB568_595.out _).trans (((cell_far (p := ⟨gb595, _, none⟩) NB568_595.out _).trans (hHeld.2.1)))))))))))), ((cell_far (p := ⟨gb595, _, none⟩) (by first | exact Kd.own_blk (Kd.R_ne HO_5.out BK595.out (by decide)) | (rw [add_block]; exact Kd.own_blk (Kd.R_ne HO_5.out BK595.out (by decide))) | (show (Addr.add _ _).block ≠ _; rw [add_block]; exact Kd.own_blk (Kd.R_ne HO_5.out BK595.out (by decide))) | (dsimp only; exact Kd.own_blk (Kd.R_ne HO_5.out BK595.out (by decide)))) _).trans (((cell_far (p := ⟨gb595, _, none⟩) (by first | exact Kd.own_blk (Kd.R_ne HO_5.out BK595.out (by decide)) | (rw [add_block]; exact Kd.own_blk (Kd.R_ne HO_5.out BK595.out (by decide))) | (show (Addr.add _ _).block ≠ _; rw [add_block]; exact Kd.own_blk (Kd.R_ne HO_5.out BK595.out (by decide))) | (dsimp only; exact Kd.own_blk (Kd.R_ne HO_5.out BK595.out (by decide)))) _).trans (((cell_far (p := ⟨gb595, _, none⟩) (by first | exact Kd.own_blk (Kd.R_ne HO_5.out BK595.out (by decide)) | (rw [add_block]; exact Kd.own_blk (Kd.R_ne HO_5.out BK595.out (by decide))) | (show (Addr.add _ _).block ≠ _; rw [add_block]; exact Kd.own_blk (Kd.R_ne HO_5.out BK595.out (by decide))) | (dsimp only; exact Kd.own_blk (Kd.R_ne HO_5.out BK595.out (by decide)))) _).trans (((cell_far (p := ⟨gb595, _, none⟩) (by first | exact Kd.own_blk (Kd.R_ne HO_5.out BK595.out (by decide)) | (rw [add_block]; exact Kd.own_blk (Kd.R_ne HO_5.out BK595.out (by decide))) | (show (Addr.add _ _).block ≠ _; rw [add_block]; exact Kd.own_blk (Kd.R_ne HO_5.out BK595.out (by decide))) | (dsimp only; exact Kd.own_blk (Kd.R_ne HO_5.out BK595.out (by decide)))) _).trans (((cell_far (p := ⟨gb595, _, none⟩) (by first | exact Kd.own_blk (Kd.R_ne HO_5.out BK595.out (by decide)) | (rw [add_block]; exact Kd.own_blk (Kd.R_ne HO_5.out BK595.out (by decide))) | (show (Addr.add _ _).block ≠ _; rw [add_block]; exact Kd.own_blk (Kd.R_ne HO_5.out BK595.out (by decide))) | (dsimp only; exact Kd.own_blk (Kd.R_ne HO_5.out BK595.out (by decide)))) _).trans (((cell_far (p := ⟨gb595, _, none⟩) (by first | exact Kd.own_blk (Kd.R_ne HO_5.out BK595.out (by decide)) | (rw [add_block]; exact Kd.own_blk (Kd.R_ne HO_5.out BK595.out (by decide))) | (show (Addr.add _ _).block ≠ _; rw [add_block]; exact Kd.own_blk (Kd.R_ne HO_5.out BK595.out (by decide))) | (dsimp only; exact Kd.own_blk (Kd.R_ne HO_5.out BK595.out (by decide)))) _).trans (hHeld.2.2))))))))))))⟩ (fun hHeld => ?_)
               clear hK K
               refine pu_ 14 13 HT_ ?_
               refine dn_ HT_ ?_
               try go_wp2
               have n0_ : Aside0 (Kd.R Kd.string 9 ((((((w151.setCell ⟨gb595, 0, none⟩ (.int .i64 t582)).setCell ⟨gb595, 1, none⟩ (.int .i64 t583)).setCell ⟨gb595, 2, none⟩ (.int .i64 t584)).setCell ⟨gb595, 3, none⟩ (.slice Ao155 t585.length co155)).setCell ⟨gb595, 4, none⟩ (.slice Ao157 t588.length co157)).setCell ⟨gb595, 5, none⟩ (.slice Ao159 t591.length co159)) w.heap.size (fun _ => True) (.slice (some ad581) y569.length co148) y569) := ⟨by (with_reducible repeat (first | apply Kd.R_alloc | apply Kd.R_drewN | apply Kd.R_drew)); exact Kd.R_mono (Kd.R_far (p := ⟨gb595, 5, none⟩) (Kd.R_far (p := ⟨gb595, 4, none⟩) (Kd.R_far (p := ⟨gb595, 3, none⟩) (Kd.R_far (p := ⟨gb595, 2, none⟩) (Kd.R_far (p := ⟨gb595, 1, none⟩) (Kd.R_far (p := ⟨gb595, 0, none⟩) (Kd.R_types HO_5.out BK595.out (by decide)) (fun _ hk => hk.2) (.int .i64 t582)) (fun _ hk => hk.2) (.int .i64 t583)) (fun _ hk => hk.2) (.int .i64 t584)) (fun _ hk => hk.2) (.slice Ao155 t585.length co155)) (fun _ hk => hk.2) (.slice Ao157 t588.length co157)) (fun _ hk => hk.2) (.slice Ao159 t591.length co159)) (fun _ hk => trivial)⟩
               have n1_ : Aside0 (Kd.S k51 51 ((((((w151.setCell ⟨gb595, 0, none⟩ (.int .i64 t582)).setCell ⟨gb595, 1, none⟩ (.int .i64 t583)).setCell ⟨gb595, 2, none⟩ (.int .i64 t584)).setCell ⟨gb595, 3, none⟩ (.slice Ao155 t585.length co155)).setCell ⟨gb595, 4, none⟩ (.slice Ao157 t588.length co157)).setCell ⟨gb595, 5, none⟩ (.slice Ao159 t591.length co159)) w.heap.size (fun k_ => some k_ ≠ (.slice Ao155 t585.length co155 : Value).ownBlock ∧ some k_ ≠ (.slice Ao157 t588.length co157 : Value).ownBlock ∧ some k_ ≠ (.slice Ao159 t591.length co159 : Value).ownBlock ∧ k_ ≠ gb595) (.slice Ao146 x569000_2.length co146) x569000_2) := ⟨by (with_reducible repeat (first | apply Kd.S_alloc | apply Kd.S_drewN | apply Kd.S_drew)); exact Kd.S_mono (Kd.S_far (p := ⟨gb595, 5, none⟩) (Kd.S_far (p := ⟨gb595, 4, none⟩) (Kd.S_far (p := ⟨gb595, 3, none⟩) (Kd.S_far (p := ⟨gb595, 2, none⟩) (Kd.S_far (p := ⟨gb595, 1, none⟩) (Kd.S_far (p := ⟨gb595, 0, none⟩) (Kd.S_mono HO_569000.out (fun k_ hk => (⟨hk, hk.2.2.2⟩ : _ ∧ k_ ≠ gb595))) (fun _ hk => hk.2) (.int .i64 t582)) (fun _ hk => hk.2) (.int .i64 t583)) (fun _ hk => hk.2) (.int .i64 t584)) (fun _ hk => hk.2) (.slice Ao155 t585.length co155)) (fun _ hk => hk.2) (.slice Ao157 t588.length co157)) (fun _ hk => hk.2) (.slice Ao159 t591.length co159)) (fun _ hk => ⟨hk.1.1, ⟨hk.1.2.1, ⟨hk.1.2.2.1, hk.1.2.2.2⟩⟩⟩)⟩
               have n2_ : Aside0 (Kd.R (Kd.int .u8) 5 ((((((w151.setCell ⟨gb595, 0, none⟩ (.int .i64 t582)).setCell ⟨gb595, 1, none⟩ (.int .i64 t583)).setCell ⟨gb595, 2, none⟩ (.int .i64 t584)).setCell ⟨gb595, 3, none⟩ (.slice Ao155 t585.length co155)).setCell ⟨gb595, 4, none⟩ (.slice Ao157 t588.length co157)).setCell ⟨gb595, 5, none⟩ (.slice Ao159 t591.length co159)) w.heap.size (fun _ => True) (.slice Ao155 t585.length co155) t585) := ⟨by (with_reducible repeat (first | apply Kd.R_alloc | apply Kd.R_drewN | apply Kd.R_drew)); exact Kd.R_mono (Kd.R_far (p := ⟨gb595, 5, none⟩) (Kd.R_far (p := ⟨gb595, 4, none⟩) (Kd.R_far (p := ⟨gb595, 3, none⟩) (Kd.R_far (p := ⟨gb595, 2, none⟩) (Kd.R_far (p := ⟨gb595, 1, none⟩) (Kd.R_far (p := ⟨gb595, 0, none⟩) (Kd.R_types HO587.out BK595.out (by decide)) (fun _ hk => hk.2) (.int .i64 t582)) (fun _ hk => hk.2) (.int .i64 t583)) (fun _ hk => hk.2) (.int .i64 t584)) (fun _ hk => hk.2) (.slice Ao155 t585.length co155)) (fun _ hk => hk.2) (.slice Ao157 t588.length co157)) (fun _ hk => hk.2) (.slice Ao159 t591.length co159)) (fun _ hk => trivial)⟩
               have n3_ : Aside0 (Kd.R k65 65 ((((((w151.setCell ⟨gb595, 0, none⟩ (.int .i64 t582)).setCell ⟨gb595, 1, none⟩ (.int .i64 t583)).setCell ⟨gb595, 2, none⟩ (.int .i64 t584)).setCell ⟨gb595, 3, none⟩ (.slice Ao155 t585.length co155)).setCell ⟨gb595, 4, none⟩ (.slice Ao157 t588.length co157)).setCell ⟨gb595, 5, none⟩ (.slice Ao159 t591.length co159)) w.heap.size (fun _ => True) (.slice Ao157 t588.length co157) t588) := ⟨by (with_reducible repeat (first | apply Kd.R_alloc | apply Kd.R_drewN | apply Kd.R_drew)); exact Kd.R_mono (Kd.R_far (p := ⟨gb595, 5, none⟩) (Kd.R_far (p := ⟨gb595, 4, none⟩) (Kd.R_far (p := ⟨gb595, 3, none⟩) (Kd.R_far (p := ⟨gb595, 2, none⟩) (Kd.R_far (p := ⟨gb595, 1, none⟩) (Kd.R_far (p := ⟨gb595, 0, none⟩) (Kd.R_types HO590.out BK595.out (by decide)) (fun _ hk => hk.2) (.int .i64 t582)) (fun _ hk => hk.2) (.int .i64 t583)) (fun _ hk => hk.2) (.int .i64 t584)) (fun _ hk => hk.2) (.slice Ao155 t585.length co155)) (fun _ hk => hk.2) (.slice Ao157 t588.length co157)) (fun _ hk => hk.2) (.slice Ao159 t591.length co159)) (fun _ hk => trivial)⟩
               have n4_ : Aside0 (Kd.R k71 71 ((((((w151.setCell ⟨gb595, 0, none⟩ (.int .i64 t582)).setCell ⟨gb595, 1, none⟩ (.int .i64 t583)).setCell ⟨gb595, 2, none⟩ (.int .i64 t584)).setCell ⟨gb595, 3, none⟩ (.slice Ao155 t585.length co155)).setCell ⟨gb595, 4, none⟩ (.slice Ao157 t588.length co157)).setCell ⟨gb595, 5, none⟩ (.slice Ao159 t591.length co159)) w.heap.size (fun _ => True) (.slice Ao159 t591.length co159) t591) := ⟨by (with_reducible repeat (first | apply Kd.R_alloc | apply Kd.R_drewN | apply Kd.R_drew)); exact Kd.R_mono (Kd.R_far (p := ⟨gb595, 5, none⟩) (Kd.R_far (p := ⟨gb595, 4, none⟩) (Kd.R_far (p := ⟨gb595, 3, none⟩) (Kd.R_far (p := ⟨gb595, 2, none⟩) (Kd.R_far (p := ⟨gb595, 1, none⟩) (Kd.R_far (p := ⟨gb595, 0, none⟩) (Kd.R_types HO593.out BK595.out (by decide)) (fun _ hk => hk.2) (.int .i64 t582)) (fun _ hk => hk.2) (.int .i64 t583)) (fun _ hk => hk.2) (.int .i64 t584)) (fun _ hk => hk.2) (.slice Ao155 t585.length co155)) (fun _ hk => hk.2) (.slice Ao157 t588.length co157)) (fun _ hk => hk.2) (.slice Ao159 t591.length co159)) (fun _ hk => trivial)⟩
               have n5_ : Aside0 (((((((w151.setCell ⟨gb595, 0, none⟩ (.int .i64 t582)).setCell ⟨gb595, 1, none⟩ (.int .i64 t583)).setCell ⟨gb595, 2, none⟩ (.int .i64 t584)).setCell ⟨gb595, 3, none⟩ (.slice Ao155 t585.length co155)).setCell ⟨gb595, 4, none⟩ (.slice Ao157 t588.length co157)).setCell ⟨gb595, 5, none⟩ (.slice Ao159 t591.length co159)).heap[gb568]? = some (.cells #[.slice Ao146 x569000_2.length co146, .int .i64 x569001_2] 26 (0, 0))) := ⟨oF BK568⟩
               have n6_ : Aside0 (((((((w151.setCell ⟨gb595, 0, none⟩ (.int .i64 t582)).setCell ⟨gb595, 1, none⟩ (.int .i64 t583)).setCell ⟨gb595, 2, none⟩ (.int .i64 t584)).setCell ⟨gb595, 3, none⟩ (.slice Ao155 t585.length co155)).setCell ⟨gb595, 4, none⟩ (.slice Ao157 t588.length co157)).setCell ⟨gb595, 5, none⟩ (.slice Ao159 t591.length co159)).heap[gb595]? = some (.cells #[.int .i64 t582, .int .i64 t583, .int .i64 t584, .slice Ao155 t585.length co155, .slice Ao157 t588.length co157, .slice Ao159 t591.length co159] 51 (0, 0))) := ⟨oP BK595⟩
               have n7_ : Aside0 (Below w.heap.size w ((((((w151.setCell ⟨gb595, 0, none⟩ (.int .i64 t582)).setCell ⟨gb595, 1, none⟩ (.int .i64 t583)).setCell ⟨gb595, 2, none⟩ (.int .i64 t584)).setCell ⟨gb595, 3, none⟩ (.slice Ao155 t585.length co155)).setCell ⟨gb595, 4, none⟩ (.slice Ao157 t588.length co157)).setCell ⟨gb595, 5, none⟩ (.slice Ao159 t591.length co159))) := ⟨oB⟩
               (try clear HO_5)
               (try clear HO_569000)
               (try clear HO587)
               (try clear HO590)
               (try clear HO593)
               (try clear BK568)
               (try clear BK595)
               (try clear HB)
               generalize ((((((w151.setCell ⟨gb595, 0, none⟩ (.int .i64 t582)).setCell ⟨gb595, 1, none⟩ (.int .i64 t583)).setCell ⟨gb595, 2, none⟩ (.int .i64 t584)).setCell ⟨gb595, 3, none⟩ (.slice Ao155 t585.length co155)).setCell ⟨gb595, 4, none⟩ (.slice Ao157 t588.length co157)).setCell ⟨gb595, 5, none⟩ (.slice Ao159 t591.length co159)) = w161 at n0_ n1_ n2_ n3_ n4_ n5_ n6_ n7_ ⊢
               have HO_5 := n0_
               have HO_569000 := n1_
               have HO587 := n2_
               have HO590 := n3_
               have HO593 := n4_
               have BK568 := n5_
               have BK595 := n6_
               have HB := n7_
               clear n0_ n1_ n2_ n3_ n4_ n5_ n6_ n7_
               replace HO_5 := Aside0.mk (Kd.R_drew HO_5.out)
               replace HO_569000 := Aside0.mk (Kd.S_drew HO_569000.out)
               replace HO587 := Aside0.mk (Kd.R_drew HO587.out)
               replace HO590 := Aside0.mk (Kd.R_drew HO590.out)
               replace HO593 := Aside0.mk (Kd.R_drew HO593.out)
               replace BK568 := Aside0.mk (blk_drew BK568.out)
               replace BK595 := Aside0.mk (blk_drew BK595.out)
               replace HB := Aside0.mk (below_drew1 HB.out)
               have p596 : (0 ≤ ((ji44) : Int)) = True := oT
               have q596 : ((ji44) < (y569.length : Int)) = True := oT
               obtain ⟨ad596, e596, hx596_0⟩ := Kd.at_string (Kd.R_reads' HO_5.out).2.2 (ji44) oa oa
               obtain rfl : ad581 = ad596 := (by injection e596)
               refine st_ 15 (fun w' => w'.cell? ⟨gb568, 0, none⟩ = some (.slice Ao146 x569000_2.length co146) ∧ w'.cell? ⟨gb568, 1, none⟩ = some (.int .i64 x569001_2) ∧ w'.cell? (ad581.add ((ji44)).toNat) = some (.string (rdOf ByteArray.empty y569 (ji44)))) laws_FnLinkCount.tab18 laws_FnLinkCount.bits18 ⟨(blk_cell BK568.out 0).trans rfl, (blk_cell BK568.out 1).trans rfl, hx596_0⟩ (fun hHeld HT_ HW_ => ?_)
               generalize w161.drew = w162 at HO_5 HO_569000 HO587 HO590 HO593 BK568 BK595 HB hx596_0 hHeld ⊢
               refine pu_ 1 69 HT_ ?_
               refine pu_ 2 70 HT_ ?_
               refine pu_ 3 71 HT_ ?_
               refine pu_ 4 72 HT_ ?_
               refine pu_ 5 73 HT_ ?_
               refine pu_ 6 74 HT_ ?_
               refine ta_ 0 68 HT_ HW_ hHeld ?_
               refine ta_ 7 75 HT_ HW_ hHeld ?_
               refine join_ (σ := Value × Nat) 2 (lb 15 8191) (fun s_ => [(76, .tuple #[.agg #[s_.1, .int .i64 t600], .int .i64 t601]), (14, .pointer (some ⟨s_.2, 0, none⟩)), (67, .tuple #[.agg #[s_.1, .int .i64 t600], .int .i64 t601]), (77, .agg #[s_.1, .int .i64 t600]), (78, .int .i64 t601)]) (fun s_ w' => (w'.cell? ⟨gb568, 0, none⟩ = some (.slice Ao146 x569000_2.length co146) ∧ w'.cell? ⟨gb568, 1, none⟩ = some (.int .i64 x569001_2) ∧ w'.cell? (ad581.add ((ji44)).toNat) = some (.string (rdOf ByteArray.empty y569 (ji44)))) ∧ (Kd.R (Kd.int .u8) 5 w' w.heap.size (fun _ => True) (.slice Ao155 t585.length co155) t585) ∧ (Kd.R k65 65 w' w.heap.size (fun _ => True) (.slice Ao157 t588.length co157) t588) ∧ (Kd.R k71 71 w' w.heap.size (fun _ => True) (.slice Ao159 t591.length co159) t591) ∧ (Kd.S k51 51 w' w.heap.size (fun k_ => some k_ ≠ (.slice Ao155 t585.length co155 : Value).ownBlock ∧ some k_ ≠ (.slice Ao157 t588.length co157 : Value).ownBlock ∧ some k_ ≠ (.slice Ao159 t591.length co159 : Value).ownBlock ∧ some k_ ≠ (.slice Ao146 x569000_2.length co146 : Value).ownBlock ∧ k_ ≠ gb595) s_.1 t597) ∧ (Kd.R Kd.string 9 w' w.heap.size (fun _ => True) (.slice (some ad581) y569.length co148) y569) ∧ (Kd.S k51 51 w' w.heap.size (fun k_ => some k_ ≠ (.slice Ao155 t585.length co155 : Value).ownBlock ∧ some k_ ≠ (.slice Ao157 t588.length co157 : Value).ownBlock ∧ some k_ ≠ (.slice Ao159 t591.length co159 : Value).ownBlock ∧ some k_ ≠ (s_.1 : Value).ownBlock ∧ k_ ≠ gb595) (.slice Ao146 x569000_2.length co146) x569000_2) ∧ (w'.heap[gb568]? = some (.cells #[.slice Ao146 x569000_2.length co146, .int .i64 x569001_2] 26 (0, 0))) ∧ (w'.heap[gb595]? = some (.cells #[.int .i64 t582, .int .i64 t583, .int .i64 t584, .slice Ao155 t585.length co155, .slice Ao157 t588.length co157, .slice Ao159 t591.length co159] 51 (0, 0))) ∧ (w'.heap[s_.2]? = some (.cells #[.slice none 0 0, .int .i64 0] 26 (0, 0))) ∧ (w.heap.size ≤ s_.2) ∧ (w.heap.size ≤ s_.2) ∧ (gb568 ≠ s_.2) ∧ (s_.2 ≠ gb568) ∧ (gb595 ≠ s_.2) ∧ (s_.2 ≠ gb595) ∧ (Below w.heap.size w w')) ?_ ?_
               rotate_left
               ·intro hCont
                refine two_ (i := 8) (j := 12) (Ni := some 76) (Nj := some 14) (lb 15 511) (lb 15 4351) rfl rfl rfl rfl (two_of HT_.out (by kernel_rfl)) (by decide) (by decide) (fun K hK => ?_) (fun K hK => ?_)
                ·skip
                 refine goes_ Tryz.func29 (by kernel_rfl) rfl #[.agg #[.slice Ao146 x569000_2.length co146, .int .i64 x569001_2], .string (rdOf ByteArray.empty y569 (ji44))] (by rfl) rfl rfl (by (try simp only [List.map_toArray, List.map_cons, List.map_nil]); first | done | (simp only [hji44]; rfl) | rfl | (simp only [List.length_drop, List.length_take]; rfl)) ?_
                 with_reducible refine (impl_Unlink.calls k2 _ _ x569000_2 x569001_2 (rdOf ByteArray.empty y569 (ji44)) t597 t600 t601 _ (rcS0 HO_569000) (rnS HO_569000) A48.out).mono ?_
                 rintro e w163 ⟨v598, rfl, ho0, hb⟩
                 have HS2_ := (hb.cell (World.block_lt_of_cell? _ _ (hHeld.2.2))).trans (hHeld.2.2)
                 refine ⟨_, rfl, ?_⟩
                 have HO599 := Aside0.mk (Kd.S_lower (Kd.S_newB (Kd.S_new' (Kd.S_new' (Kd.S_new' (Kd.S_new' ho0 (ltS0 HO_569000)) (kl_ HO587)) (kl_ HO590)) (kl_ HO593)) (g := gb595) (o := .cells #[.int .i64 t582, .int .i64 t583, .int .i64 t584, .slice Ao155 t585.length co155, .slice Ao157 t588.length co157, .slice Ao159 t591.length co159] 51 (0, 0)) (oF BK595)) (below_size oB))
                 replace HO_5 := kr_ HO_5 hb
                 replace HO_569000 := elS0 HO_569000 (Kd.S_base ho0) hb
                 replace HO587 := kr_ HO587 hb
                 replace HO590 := kr_ HO590 hb
                 replace HO593 := kr_ HO593 hb
                 replace BK568 := kb_ BK568 hb
                 replace BK595 := kb_ BK595 hb
                 replace HB := Aside0.mk (below_step oB hb)
                 refine hk_ hK 76 ⟨(blk_cell BK568.out 0).trans rfl, (blk_cell BK568.out 1).trans rfl, HS2_⟩ (fun hHeld => ?_)
                 clear hK K
                 refine pu_ 9 67 HT_ ?_
                 refine pu_ 10 77 HT_ ?_
                 refine pu_ 11 78 HT_ ?_
                 refine on_ 12 14 HT_ (fun K hK => ?_)
                 refine box_step ?hg (N := 14) ?hd (cs := #[.slice none 0 0, .int .i64 0]) (t := 26) ?hr ?_; (case hd => rfl); (case hg => rfl); (case hr => first | (go_simp; done) | (go_simp; rfl))
                 intro gb602 hg w164 hbox hb
                 have HS2_ := (hb.cell (World.block_lt_of_cell? _ _ (hHeld.2.2))).trans (hHeld.2.2)
                 have BK602 := Aside0.mk (hbox)
                 have GW602 := gs_ hg
                 have GE602 := gs_ hg
                 have NB568_602 := nl_ hg BK568
                 have NB602_568 := nr_ hg BK568
                 have NB595_602 := nl_ hg BK595
                 have NB602_595 := nr_ hg BK595
                 replace HO_5 := kr_ HO_5 hb
                 replace HO_569000 := beS0 HO_569000 hb
                 replace HO587 := kr_ HO587 hb
                 replace HO590 := kr_ HO590 hb
                 replace HO593 := kr_ HO593 hb
                 replace HO599 := beS0 HO599 hb
                 replace BK568 := kb_ BK568 hb
                 replace BK595 := kb_ BK595 hb
                 replace HB := Aside0.mk (below_step oB hb)
                 clear hb hbox hg
                 refine hk_ hK 14 ⟨(blk_cell BK568.out 0).trans rfl, (blk_cell BK568.out 1).trans rfl, HS2_⟩ (fun hHeld => ?_)
                 clear hK K
                 exact norm_ (by simp only [putAll, Act.put, List.setIfInBounds_toArray, List.set_cons_zero, List.set_cons_succ]) (hCont (v598, gb602) _ ⟨hHeld, (oR HO587), (oR HO590), (oR HO593), (by (with_reducible repeat (first | apply Kd.S_alloc | apply Kd.S_drewN | apply Kd.S_drew)); exact Kd.S_mono HO599.out (fun _ hk => ⟨hk.1.1.1.2, ⟨hk.1.1.2, ⟨hk.1.2, ⟨hk.1.1.1.1.2, hk.2⟩⟩⟩⟩)), (oR HO_5), (by (with_reducible repeat (first | apply Kd.S_alloc | apply Kd.S_drewN | apply Kd.S_drew)); exact Kd.S_mono HO_569000.out (fun _ hk => ⟨hk.1.1, ⟨hk.1.2.1, ⟨hk.1.2.2.1, ⟨hk.2, hk.1.2.2.2⟩⟩⟩⟩)), (oF BK568), (oF BK595), (oF BK602), GW602.out, GE602.out, NB568_602.out, NB602_568.out, NB595_602.out, NB602_595.out, oB⟩)
                ·skip
                 refine box_step ?hg (N := 14) ?hd (cs := #[.slice none 0 0, .int .i64 0]) (t := 26) ?hr ?_; (case hd => rfl); (case hg => rfl); (case hr => first | (go_simp; done) | (go_simp; rfl))
                 intro gb602 hg w163 hbox hb
                 have HS2_ := (hb.cell (World.block_lt_of_cell? _ _ (hHeld.2.2))).trans (hHeld.2.2)
                 have BK602 := Aside0.mk (hbox)
                 have GW602 := gs_ hg
                 have GE602 := gs_ hg
                 have NB568_602 := nl_ hg BK568
                 have NB602_568 := nr_ hg BK568
                 have NB595_602 := nl_ hg BK595
                 have NB602_595 := nr_ hg BK595
                 replace HO_5 := kr_ HO_5 hb
                 replace HO_569000 := beS0 HO_569000 hb
                 replace HO587 := kr_ HO587 hb
                 replace HO590 := kr_ HO590 hb
                 replace HO593 := kr_ HO593 hb
                 replace BK568 := kb_ BK568 hb
                 replace BK595 := kb_ BK595 hb
                 replace HB := Aside0.mk (below_step oB hb)
                 clear hb hbox hg
                 refine hk_ hK 14 ⟨(blk_cell BK568.out 0).trans rfl, (blk_cell BK568.out 1).trans rfl, HS2_⟩ (fun hHeld => ?_)
                 clear hK K
                 refine on_ 8 76 HT_ (fun K hK => ?_)
                 refine goes_ Tryz.func29 (by kernel_rfl) rfl #[.agg #[.slice Ao146 x569000_2.length co146, .int .i64 x569001_2], .string (rdOf ByteArray.empty y569 (ji44))] (by rfl) rfl rfl (by (try simp only [List.map_toArray, List.map_cons, List.map_nil]); first | done | (simp only [hji44]; rfl) | rfl | (simp only [List.length_drop, List.length_take]; rfl)) ?_
                 with_reducible refine (impl_Unlink.calls k2 _ _ x569000_2 x569001_2 (rdOf ByteArray.empty y569 (ji44)) t597 t600 t601 _ (rcS0 HO_569000) (rnS HO_569000) A48.out).mono ?_
                 rintro e w164 ⟨v598, rfl, ho0, hb⟩
                 have HS2_ := (hb.cell (World.block_lt_of_cell? _ _ (hHeld.2.2))).trans (hHeld.2.2)
                 refine ⟨_, rfl, ?_⟩
                 have HO599 := Aside0.mk (Kd.S_lower (Kd.S_newB (Kd.S_new' (Kd.S_new' (Kd.S_new' (Kd.S_new' ho0 (ltS0 HO_569000)) (kl_ HO587)) (kl_ HO590)) (kl_ HO593)) (g := gb595) (o := .cells #[.int .i64 t582, .int .i64 t583, .int .i64 t584, .slice Ao155 t585.length co155, .slice Ao157 t588.length co157, .slice Ao159 t591.length co159] 51 (0, 0)) (oF BK595)) (below_size oB))
                 replace HO_5 := kr_ HO_5 hb
                 replace HO_569000 := elS0 HO_569000 (Kd.S_base ho0) hb
                 replace HO587 := kr_ HO587 hb
                 replace HO590 := kr_ HO590 hb
                 replace HO593 := kr_ HO593 hb
                 replace BK568 := kb_ BK568 hb
                 replace BK595 := kb_ BK595 hb
                 replace BK602 := kb_ BK602 hb
                 replace HB := Aside0.mk (below_step oB hb)
                 refine hk_ hK 76 ⟨(blk_cell BK568.out 0).trans rfl, (blk_cell BK568.out 1).trans rfl, HS2_⟩ (fun hHeld => ?_)
                 clear hK K
                 refine pu_ 9 67 HT_ ?_
                 refine pu_ 10 77 HT_ ?_
                 refine pu_ 11 78 HT_ ?_
                 exact norm_ (by simp only [putAll, Act.put, List.setIfInBounds_toArray, List.set_cons_zero, List.set_cons_succ]) (hCont (v598, gb602) _ ⟨hHeld, (oR HO587), (oR HO590), (oR HO593), (by (with_reducible repeat (first | apply Kd.S_alloc | apply Kd.S_drewN | apply Kd.S_drew)); exact Kd.S_mono HO599.out (fun _ hk => ⟨hk.1.1.1.2, ⟨hk.1.1.2, ⟨hk.1.2, ⟨hk.1.1.1.1.2, hk.2⟩⟩⟩⟩)), (oR HO_5), (by (with_reducible repeat (first | apply Kd.S_alloc | apply Kd.S_drewN | apply Kd.S_drew)); exact Kd.S_mono HO_569000.out (fun _ hk => ⟨hk.1.1, ⟨hk.1.2.1, ⟨hk.1.2.2.1, ⟨hk.2, hk.1.2.2.2⟩⟩⟩⟩)), (oF BK568), (oF BK595), (oF BK602), GW602.out, GE602.out, NB568_602.out, NB602_568.out, NB595_602.out, NB602_595.out, oB⟩)
               rintro ⟨v598, gb602⟩ w165 ⟨hS_, h0_, h1_, h2_, h3_, h4_, h5_, h6_, h7_, h8_, h9_, h10_, h11_, h12_, h13_, h14_, h15_⟩
               have n0_ : Aside0 (Kd.R (Kd.int .u8) 5 w165 w.heap.size (fun _ => True) (.slice Ao155 t585.length co155) t585) := ⟨h0_⟩
               have n1_ : Aside0 (Kd.R k65 65 w165 w.heap.size (fun _ => True) (.slice Ao157 t588.length co157) t588) := ⟨h1_⟩
               have n2_ : Aside0 (Kd.R k71 71 w165 w.heap.size (fun _ => True) (.slice Ao159 t591.length co159) t591) := ⟨h2_⟩
               have n3_ : Aside0 (Kd.S k51 51 w165 w.heap.size (fun k_ => some k_ ≠ (.slice Ao155 t585.length co155 : Value).ownBlock ∧ some k_ ≠ (.slice Ao157 t588.length co157 : Value).ownBlock ∧ some k_ ≠ (.slice Ao159 t591.length co159 : Value).ownBlock ∧ some k_ ≠ (.slice Ao146 x569000_2.length co146 : Value).ownBlock ∧ k_ ≠ gb595) v598 t597) := ⟨h3_⟩
               have n4_ : Aside0 (Kd.R Kd.string 9 w165 w.heap.size (fun _ => True) (.slice (some ad581) y569.length co148) y569) := ⟨h4_⟩
               have n5_ : Aside0 (Kd.S k51 51 w165 w.heap.size (fun k_ => some k_ ≠ (.slice Ao155 t585.length co155 : Value).ownBlock ∧ some k_ ≠ (.slice Ao157 t588.length co157 : Value).ownBlock ∧ some k_ ≠ (.slice Ao159 t591.length co159 : Value).ownBlock ∧ some k_ ≠ (v598 : Value).ownBlock ∧ k_ ≠ gb595) (.slice Ao146 x569000_2.length co146) x569000_2) := ⟨h5_⟩
               have n6_ : Aside0 (w165.heap[gb568]? = some (.cells #[.slice Ao146 x569000_2.length co146, .int .i64 x569001_2] 26 (0, 0))) := ⟨h6_⟩
               have n7_ : Aside0 (w165.heap[gb595]? = some (.cells #[.int .i64 t582, .int .i64 t583, .int .i64 t584, .slice Ao155 t585.length co155, .slice Ao157 t588.length co157, .slice Ao159 t591.length co159] 51 (0, 0))) := ⟨h7_⟩
               have n8_ : Aside0 (w165.heap[gb602]? = some (.cells #[.slice none 0 0, .int .i64 0] 26 (0, 0))) := ⟨h8_⟩
               have n9_ : Aside0 (w.heap.size ≤ gb602) := ⟨h9_⟩
               have n10_ : Aside0 (w.heap.size ≤ gb602) := ⟨h10_⟩
               have n11_ : Aside0 (gb568 ≠ gb602) := ⟨h11_⟩
               have n12_ : Aside0 (gb602 ≠ gb568) := ⟨h12_⟩
               have n13_ : Aside0 (gb595 ≠ gb602) := ⟨h13_⟩
               have n14_ : Aside0 (gb602 ≠ gb595) := ⟨h14_⟩
               have n15_ : Aside0 (Below w.heap.size w w165) := ⟨h15_⟩
               clear HO_5
               clear HO_569000
               clear HO587
               clear HO590
               clear HO593
               clear BK568
               clear BK595
               clear HB
               clear h0_ h1_ h2_ h3_ h4_ h5_ h6_ h7_ h8_ h9_ h10_ h11_ h12_ h13_ h14_ h15_
               have HO587 := n0_
               have HO590 := n1_
               have HO593 := n2_
               have HO599 := n3_
               have HO_5 := n4_
               have HO_569000 := n5_
               have BK568 := n6_
               have BK595 := n7_
               have BK602 := n8_
               have GW602 := n9_
               have GE602 := n10_
               have NB568_602 := n11_
               have NB602_568 := n12_
               have NB595_602 := n13_
               have NB602_595 := n14_
               have HB := n15_
               clear n0_ n1_ n2_ n3_ n4_ n5_ n6_ n7_ n8_ n9_ n10_ n11_ n12_ n13_ n14_ n15_
               have hHeld : w165.cell? ⟨gb568, 0, none⟩ = some (.slice Ao146 x569000_2.length co146) ∧ w165.cell? ⟨gb568, 1, none⟩ = some (.int .i64 x569001_2) ∧ w165.cell? (ad581.add ((ji44)).toNat) = some (.string (rdOf ByteArray.empty y569 (ji44))) := hS_
               obtain ⟨Ao166, co166, eo166⟩ := Kd.S_slice HO599.out
               (first | subst eo166 | (injection eo166 with f1_ f2_ f3_; have f4_ := f1_.symm; have f5_ := f3_.symm; clear f1_ f2_ f3_; subst f4_; subst f5_))
               refine norm_ (a' := ?_) ?_ ?_
               rotate_left
               ·simp only [putAll, Act.put, List.setIfInBounds_toArray, List.set_cons_zero, List.set_cons_succ]
                rfl
               refine one_ (i := 13) (N := none) (lb 15 16383) rfl rfl (one_of HT_.out (by kernel_rfl)) (by decide) (fun K hK => ?_)
               have hs167 : w165.cell? ⟨gb602, 0, none⟩ = some (.slice none 0 0) := (blk_cell BK602.out 0).trans rfl
               have hfs167 := blk_frozen BK602.out 0
               have hns167_0 := NB568_602.out
               have hns167_1 := NB595_602.out
               have hms167_0 := NB602_568.out
               have hms167_1 := NB602_595.out
               have hs168 : w165.cell? ⟨gb602, 1, none⟩ = some (.int .i64 0) := (blk_cell BK602.out 1).trans rfl
               have hfs168 := blk_frozen BK602.out 1
               have hns168_0 := NB568_602.out
               have hns168_1 := NB595_602.out
               have hms168_0 := NB602_568.out
               have hms168_1 := NB602_595.out
               refine skip_ (w1 := ?_) (by rfl) rfl ?_ ?_
               rotate_left
               ·go_simp
                rfl
               refine hK.out _ _ ⟨((cell_far (p := ⟨gb602, _, none⟩) NB568_602.out _).trans (((cell_far (p := ⟨gb602, _, none⟩) NB568_602.out _).trans (hHeld.1)))), ((cell_far (p := ⟨gb602, _, none⟩) NB568_602.out _).trans (((cell_far (p := ⟨gb602, _, none⟩) NB568_602.out _).trans (hHeld.2.1)))), ((cell_far (p := ⟨gb602, _, none⟩) (by first | exact Kd.own_blk (Kd.R_ne HO_5.out BK602.out (by decide)) | (rw [add_block]; exact Kd.own_blk (Kd.R_ne HO_5.out BK602.out (by decide))) | (show (Addr.add _ _).block ≠ _; rw [add_block]; exact Kd.own_blk (Kd.R_ne HO_5.out BK602.out (by decide))) | (dsimp only; exact Kd.own_blk (Kd.R_ne HO_5.out BK602.out (by decide)))) _).trans (((cell_far (p := ⟨gb602, _, none⟩) (by first | exact Kd.own_blk (Kd.R_ne HO_5.out BK602.out (by decide)) | (rw [add_block]; exact Kd.own_blk (Kd.R_ne HO_5.out BK602.out (by decide))) | (show (Addr.add _ _).block ≠ _; rw [add_block]; exact Kd.own_blk (Kd.R_ne HO_5.out BK602.out (by decide))) | (dsimp only; exact Kd.own_blk (Kd.R_ne HO_5.out BK602.out (by decide)))) _).trans (hHeld.2.2))))⟩ (fun hHeld => ?_)
               clear hK K
               refine pu_ 14 15 HT_ ?_
               refine dn_ HT_ ?_
               have hnb169 := NB595_568.out
               have hnc169 := NB568_595.out
               have hnb170 := NB595_602.out
               have hnc170 := NB602_595.out
               obtain ⟨⟨_, _, _, _, _, _⟩, _, _, _, _, _, _⟩ := z6 BK595
               have hnb172 := NB602_568.out
               have hnc172 := NB568_602.out
               obtain ⟨⟨_, _⟩, _, _⟩ := z2 BK602
               try go_wp2_with (first | (go_at_call 17; (with_reducible refine (impl_TreeOk.calls k2 _ _ t597 t600 true _ (rcS1 HO599 BK602) (rnS HO599) A144.out).mono ?_); rintro e w174 ⟨rfl, hb⟩; replace HO_5 := beR1 HO_5 BK602 hb; replace HO_569000 := beS1 HO_569000 BK602 hb; replace HO587 := beR1 HO587 BK602 hb; replace HO590 := beR1 HO590 BK602 hb; replace HO593 := beR1 HO593 BK602 hb; replace HO599 := beS1 HO599 BK602 hb; replace BK568 := kb_ BK568 hb; replace BK595 := kb_ BK595 hb; replace BK602 := kp_ #[.slice Ao166 t597.length co166, .int .i64 t600] BK602 hb; replace HB := Aside0.mk (below_step oB hb); (try clear hk); obtain ⟨⟨_, _⟩, _, _⟩ := z2 BK602; obtain ⟨⟨_, _⟩, _, _⟩ := z2 BK568))
               go_roundg k2
               case measure => have := HK1.out; have := HK2.out; omega
               case rel => exact ⟨(wrap64 (x11_2 + 1)), (t597), (t600), (.slice Ao166 t597.length co166), oS, H', ⟨by have := HK1.out; have := HK2.out; omega⟩, ⟨by (with_reducible repeat (first | apply Kd.R_alloc | apply Kd.R_drewN | apply Kd.R_drew)); exact Kd.R_mono (Kd.R_far (p := ⟨gb568, 1, none⟩) (Kd.R_far (p := ⟨gb568, 0, none⟩) (Kd.R_types HO_5.out BK568.out (by decide)) (fun _ hk => hk.2) (.slice Ao166 t597.length co166)) (fun _ hk => hk.2) (.int .i64 t600)) (fun _ hk => trivial)⟩, ⟨by (with_reducible repeat (first | apply Kd.S_alloc | apply Kd.S_drewN | apply Kd.S_drew)); exact Kd.S_mono (Kd.S_far (p := ⟨gb568, 1, none⟩) (Kd.S_far (p := ⟨gb568, 0, none⟩) (Kd.S_types HO599.out BK568.out (by decide)) (fun _ hk => hk.2) (.slice Ao166 t597.length co166)) (fun _ hk => hk.2) (.int .i64 t600)) (fun _ hk => trivial)⟩, ⟨oP BK568⟩, ⟨oB⟩⟩
              ·cases H
            ·rw [if_neg c51] at H
             cases H
           ·rw [if_neg c50] at H
            cases H
          ·rw [if_neg c49] at H
           cases H
         ·cases H
        ·cases H
       ·replace H := itB H
        rcases H with ⟨rfl, H⟩ | ⟨rfl, H⟩
        ·obtain rfl := Option.some.inj H
         obtain ⟨⟨_, _⟩, _, _⟩ := z2 BK568
         obtain ⟨Ao280, co280, eo280⟩ := Kd.S_slice HO_569000.out
         subst eo280
         go_wp2
         go_ret
         exact ⟨oE, oB⟩
        ·cases H
/-- THE ONE PURE STATEMENT of laws_FnLinkCount: yours. -/
def laws_FnLinkCount.Pure : Prop := ∀ (l0 : List Int), l0.length ≤ maxLen → l0.length * 1 ≤ 140737488351232 → (∀ x ∈ l0, (Lit.int .u8 x).wf = true) → ∃ k, laws_FnLinkCount.f k l0 = some true
theorem laws_FnLinkCount.walk (P : laws_FnLinkCount.Pure) (a0 : Option Addr) (len0 cap0 : Nat) (z0 : List Int) (w : World) (w0 : (a0 = none ∧ len0 = 0 ∧ cap0 = 0 ∧ z0 = []) ∨ ∃ x, a0 = some x ∧ len0 ≤ cap0 ∧ cap0 ≤ maxLen ∧ z0.length = cap0 ∧ (∀ i, i < z0.length → w.cell? (x.add i) = some (.int .u8 (z0.getD i 0))) ∧ ∀ n ∈ z0, (Lit.int .u8 n).wf = true) (y0 : len0 * 1 ≤ 140737488351232) (hG : GOk w) :
  Calls Tryz.prog 7 #[.slice a0 len0 cap0] w fun e w' => e = .returned (.bool true) ∧ Below w.heap.size w w' := by
 obtain ⟨l0, rfl, hr0, hm0, hw0, hc0⟩ := ReadsInt.ofRowC w0
 obtain ⟨k, h⟩ := P l0 hm0 y0 hw0
 refine (laws_FnLinkCount.calls k _ _ l0 true w (Kd.C_of_reads (d := (0 : Int)) (h1 := fun _ => rfl) hr0) hc0 h hG).mono ?_
 rintro e w' ⟨rfl, hd⟩
 exact ⟨rfl, hd⟩

end Go.Proofs.YtkcfmbggdkkfeaaGreatDoor.P
