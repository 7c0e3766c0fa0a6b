-- By this session's own program (wip/myprint.py) out of the translation; Lean checks it.
import Derived.Test.YtkcfmbggdkkfeaaGreatDoorPx0
import Derived.Test.YtkcfmbggdkkfeaaGreatDoorPx3
import Derived.Test.YtkcfmbggdkkfeaaGreatDoorPx15
import Derived.Test.YtkcfmbggdkkfeaaGreatDoorPx16
import Derived.Test.YtkcfmbggdkkfeaaGreatDoorPx17
namespace Go.Proofs.YtkcfmbggdkkfeaaGreatDoor.P
open Go.RowKit Go.Proofs.YtkcfmbggdkkfeaaGreatDoorW.PrintWords Go.Proofs.YtkcfmbggdkkfeaaGreatDoorW.PrintLast Go.Proofs.YtkcfmbggdkkfeaaGreatDoorW.PrintMore
attribute [local go_sem] max2_int min2_int max_two min_two max_three min_three max_four min_four   -- for this text's walks alone
set_option linter.unusedVariables false
set_option linter.unusedSimpArgs false

/-! ### laws_FnFullDir: function 8 -/
def laws_FnFullDir.l0 : Nat → List Int → Int → Int → List (S51) → Int → Option (Bool)
 | 0, _, _, _, _, _ => none
 | k + 1, x0, x4, x5, x621000, x621001 => if x5 < 10 then ((some (([(wrap64 (97 + x5)) % 256] : List Int) : List Int)).bind fun y621 => (if 3 + (strOfNums y621).size ≤ 9223372036854775807 then ((impl_MakeFile.f k x621000 x621001 ((⟨#[47, 100, 47]⟩ : ByteArray) ++ (strOfNums y621))).bind fun bt624 => (if bt624.2.2 = 0 then (laws_FnFullDir.l0 k x0 x4 (wrap64 (x5 + 1)) bt624.1 bt624.2.1) else (none))) else (none))) else ((impl_MakeFile.f k x621000 x621001 (⟨#[47, 100, 47, 122]⟩ : ByteArray)).bind fun bt630 => ((impl_HardLink.f k x621000 x621001 (⟨#[47, 100, 47, 97]⟩ : ByteArray) (⟨#[47, 100, 47, 122]⟩ : ByteArray)).bind fun bt636 => ((impl_Rename.f k x621000 x621001 (⟨#[47, 100, 47, 97]⟩ : ByteArray) (⟨#[47, 100, 47, 122]⟩ : ByteArray)).bind fun bt642 => ((laws_at.f x0 2).bind fun t648 => ((some (([(wrap64 (97 + (Int.tmod t648 10))) % 256] : List Int) : List Int)).bind fun y649 => (if 3 + (strOfNums y649).size ≤ 9223372036854775807 then ((impl_Unlink.f k x621000 x621001 ((⟨#[47, 100, 47]⟩ : ByteArray) ++ (strOfNums y649))).bind fun bt652 => ((impl_MakeFile.f k bt652.1 bt652.2.1 (⟨#[47, 100, 47, 122]⟩ : ByteArray)).bind fun bt658 => (if x4 = 0 then (if bt630.2.2 = 5 then (if bt636.2.2 = 5 then (if bt642.2.2 = 0 then (if bt652.2.2 = 0 then (some (bt658.2.2 == 0)) else (none)) else (none)) else (none)) else (none)) else (none)))) else (none)))))))
def laws_FnFullDir.f (k : Nat) (l0 : List Int) : Option (Bool) := (laws_big.f l0).bind fun t610 => (if t610 = true then (some true) else ((impl_TabNew.f).bind fun bt611 => ((impl_MakeDir.f k bt611.1 bt611.2 (⟨#[47, 100]⟩ : ByteArray)).bind fun bt615 => (laws_FnFullDir.l0 k l0 bt615.2.2 0 bt615.1 bt615.2.1))))
def laws_FnFullDir.T14 : Bool × List (List Nat × List Nat) := (true, [([], []), ([], []), ([1], [1]), ([2], [2]), ([3], [3]), ([4], [4]), ([5], [5]), ([6], [6]), ([7], [7]), ([0, 8, 2], [0, 8]), ([9], [9]), ([10], [10]), ([10], [10]), ([], []), ([13, 11, 9, 0, 1, 2, 3, 4, 5, 6, 7, 8, 9, 10, 11, 13], [11, 13]), ([12, 14, 0, 1, 2, 3, 4, 5, 6, 7, 8, 9, 10, 11, 12, 13, 14], [12])])
def laws_FnFullDir.B14 : List Nat := [0, 0, 2, 6, 14, 30, 62, 126, 254, 511, 1023, 2047, 2047, 0, 12287, 32767]
theorem laws_FnFullDir.tab14 : rtab .any (opsOf Tryz.f8 14) = laws_FnFullDir.T14 := by kernel_rfl
theorem laws_FnFullDir.bits14 : waitsOk laws_FnFullDir.T14.2 laws_FnFullDir.B14 = true := by kernel_rfl
set_option maxHeartbeats 8000000 in
set_option maxRecDepth 100000 in
theorem laws_FnFullDir.calls (k : Nat) (A0 : Option Addr) (c0 : Nat) (l0 : List Int) (r : Bool) (w : World) (hr0 : Kd.C (Kd.int .u8) w A0 l0.length l0) (hc0 : l0.length ≤ c0) (h : laws_FnFullDir.f k l0 = some r) (hG : GOk w := by exact gk_ oB (by first | (with_reducible assumption) | assumption)) :
  Calls Tryz.prog 8 #[.slice A0 l0.length c0] w fun e w' => e = .returned (.bool r) ∧ Below w.heap.size w w' := by
 have HG := Aside0.mk hG
 clear hG
 have hu26 := Tryz.underlying26
 have HR0 := Aside0.mk hr0
 have HC0 := Aside0.mk hc0
 clear hr0 hc0
 have HB := Aside0.mk (Below.refl w.heap.size w)
 unfold laws_FnFullDir.f at h
 have H := h
 clear h
 replace H := bA H
 obtain ⟨t610, A2, H⟩ := H
 try dsimp only at H
 replace H := itB H
 rcases H with ⟨rfl, H⟩ | ⟨rfl, H⟩
 ·obtain rfl := Option.some.inj H
  go_enter Tryz.func8, Tryz.ntmps8
  go_wp2_with (first | ((with_reducible refine gate_callee (f := 11) rfl ?_); refine gl_ 19 Tryz.func11 (laws_big.calls _ _ l0 true _ (kD HR0) HC0.out A2.out) ?_; rintro e w' ⟨rfl, ⟨nd, rfl⟩⟩; refine ⟨_, rfl, ?_⟩))
  go_ret
  exact ⟨oE, oB⟩
 ·replace H := bA H
  obtain ⟨⟨t611, t614⟩, A4, H⟩ := H
  try dsimp only at H
  replace H := bA H
  obtain ⟨⟨t615, t618, t619⟩, A5, H⟩ := H
  try dsimp only at H
  have H' := Aside0.mk H
  clear H
  go_enter Tryz.func8, Tryz.ntmps8
  go_wp2_with (first | ((with_reducible refine gate_callee (f := 11) rfl ?_); refine gl_ 19 Tryz.func11 (laws_big.calls _ _ l0 false _ (kD HR0) HC0.out A2.out) ?_; rintro e w' ⟨rfl, ⟨nd, rfl⟩⟩; refine ⟨_, rfl, ?_⟩) | ((with_reducible refine gate_callee (f := 12) rfl ?_); refine gl_ 21 Tryz.func12 (impl_TabNew.calls  t611 t614 _ A4.out) ?_; rintro e w6 ⟨v612, rfl, ho0, hb⟩; refine ⟨_, rfl, ?_⟩; have HO613 := Aside0.mk (Kd.S_lower ho0 (below_size oB)); replace HB := Aside0.mk (below_step oB hb); obtain ⟨Ao7, co7, eo7⟩ := Kd.S_slice HO613.out; subst eo7) | ((with_reducible refine gate_callee (f := 14) rfl ?_); refine gl_ 22 Tryz.func14 (impl_MakeDir.calls k _ _ t611 t614 (⟨#[47, 100]⟩ : ByteArray) t615 t618 t619 _ (rcS0 HO613) (rnS HO613) A5.out) ?_; rintro e w8 ⟨v616, rfl, ho0, hb⟩; refine ⟨_, rfl, ?_⟩; have HO617 := Aside0.mk (Kd.S_lower (Kd.S_new' ho0 (ltS0 HO613)) (below_size oB)); replace HO613 := elS0 HO613 (Kd.S_base ho0) hb; replace HB := Aside0.mk (below_step oB hb)) | ((with_reducible refine gate_dst (N := 3) rfl ?_); refine bx_ 3 #[.slice none 0 0, .int .i64 0] 26 ?_; intro gb620 hg w9 hbox hb; have BK620 := Aside0.mk (hbox); have GW620 := gs_ hg; replace HO613 := beS0 HO613 hb; replace HO617 := beS0 HO617 hb; replace HB := Aside0.mk (below_step oB hb); clear hb hbox hg; obtain ⟨Ao10, co10, eo10⟩ := Kd.S_slice HO617.out; subst eo10; obtain ⟨⟨_, _⟩, _, _⟩ := z2 BK620))
  go_loopg [5] k (fun kq v5 w' => ∃ (x5_1 : Int) (x621000_1 : List (S51)) (x621001_1 : Int) (u621000 : Value), v5 = .int .i64 x5_1 ∧ Aside0 (laws_FnFullDir.l0 kq l0 t619 x5_1 x621000_1 x621001_1 = some r) ∧ Aside0 (kq ≤ k) ∧ Aside0 (Kd.S k51 51 w' w.heap.size (fun _ => True) u621000 x621000_1) ∧ Aside0 (w'.heap[gb620]? = some (.cells #[u621000, .int .i64 x621001_1] 26 (0, 0))) ∧ Aside0 (Below w.heap.size w w'))
  case atStart => exact ⟨(0), (t615), (t618), (.slice Ao10 t615.length co10), oS, H', ⟨Nat.le_refl _⟩, ⟨by (with_reducible repeat (first | apply Kd.S_alloc | apply Kd.S_drewN | apply Kd.S_drew)); exact Kd.S_mono (Kd.S_far (p := ⟨gb620, 1, none⟩) (Kd.S_far (p := ⟨gb620, 0, none⟩) (Kd.S_types HO617.out BK620.out (by decide)) (fun _ hk => hk.2) (.slice Ao10 t615.length co10)) (fun _ hk => hk.2) (.int .i64 t618)) (fun _ hk => trivial)⟩, ⟨oP BK620⟩, ⟨oB⟩⟩
  case round =>
   clear H'
   obtain ⟨x5_1, x621000_1, x621001_1, u621000, rfl, HA, HK1, HO_621000, BK620, HB⟩ := hrel
   cases gk with
   | zero => exact absurd HA.out (by simp [laws_FnFullDir.l0])
   | succ k1 =>
    have H := HA.out
    clear HA
    simp only [laws_FnFullDir.l0] at H
    replace H := itD H
    rcases H with ⟨c12b0, H⟩ | ⟨c12b0, H⟩
    ·obtain ⟨y621, hy621⟩ : ∃ y_ : List Int, y_ = (([(wrap64 (97 + x5_1)) % 256] : List Int)) := ⟨_, rfl⟩
     replace H : (if 3 + (strOfNums y621).size ≤ 9223372036854775807 then ((impl_MakeFile.f k1 x621000_1 x621001_1 ((⟨#[47, 100, 47]⟩ : ByteArray) ++ (strOfNums y621))).bind fun bt624 => (if bt624.2.2 = 0 then (laws_FnFullDir.l0 k1 l0 t619 (wrap64 (x5_1 + 1)) bt624.1 bt624.2.1) else (none))) else (none)) = some r := by first | (rw [hy621]; with_reducible exact H) | (have H2_ := (Option.bind_some _ _).symm.trans H; rw [hy621]; with_reducible exact H2_) | (have H2_ := (Option.bind_some _ _).symm.trans H; with_reducible exact H2_) | with_reducible exact H | (rw [hy621]; exact H) | exact H
     have Ny621 := Aside0.mk hy621
     clear hy621
     by_cases c13 : 3 + (strOfNums y621).size ≤ 9223372036854775807
     ·rw [if_pos c13] at H
      have c13b0 := eq_true c13
      have c13b1 : decide (3 + (strOfNums y621).size ≤ 9223372036854775807) = true := decide_eq_true c13
      try have c13b2 : (9223372036854775807 < 3 + (strOfNums y621).size) = False := eq_false (Nat.not_lt.2 c13)
      replace H := bA H
      obtain ⟨⟨t624, t627, t628⟩, A14, H⟩ := H
      try dsimp only at H
      by_cases c15 : t628 = 0
      ·rw [if_pos c15] at H
       have c15b0 : (t628 == 0) = true := beq_iff_eq.mpr c15
       have c15b1 : (t628 != 0) = false := bne_eq_false_iff_eq.mpr c15
       clear c15
       have H' := Aside0.mk H
       clear H
       obtain ⟨⟨_, _⟩, _, _⟩ := z2 BK620
       go_wp2_with (first | ((with_reducible refine gate_dst (N := 34) rfl ?_); refine Kd.R_lit (Kd.int .u8) _ 5 ?hg (N := 34) ?hd (xs := ([(wrap64 (97 + x5_1)) % 256] : List Int)) (inner := [.int .u8 ((wrap64 (97 + x5_1)) % 256)]) (ok := fun _ => True) (okp := fun _ => True) ?hr ?hp (fun _ hk => hk) trivial (Below.refl _ _) (Nat.le_refl _) (by simp) ?_; (case hd => rfl); (case hg => rfl); (case hr => first | (go_simp; done) | (go_simp; rfl)); (case hp => exact (Reps.one (show Kd.M (Kd.int .u8) _ _ _ ((wrap64 (97 + x5_1)) % 256) [.int .u8 ((wrap64 (97 + x5_1)) % 256)] from rfl) (Reps.none _ _))); intro v622 w17 ho18 hb hg_ hnew_; clear hg_ hnew_; (first | rw [← Ny621.out] at ho18 | (simp only [Int.reduceToNat] at ho18; rw [← Ny621.out] at ho18)); have HO623 := Aside0.mk (Kd.R_lower ho18 (below_size oB)); replace HO_621000 := elS0 HO_621000 (Kd.R_base ho18) hb; replace BK620 := kb_ BK620 hb; replace HB := Aside0.mk (below_step oB hb); clear hb ho18; have hcv19 := own_string (P := Tryz.prog) Tryz.underlying22 Tryz.underlying5 Tryz.underlying9 (Kd.own_of_R HO623.out); obtain ⟨Ao20, co20, eo20⟩ := Kd.S_slice HO_621000.out; subst eo20) | ((with_reducible refine gate_callee (f := 15) rfl ?_); refine gl_ 37 Tryz.func15 (impl_MakeFile.calls k1 _ _ x621000_1 x621001_1 ((⟨#[47, 100, 47]⟩ : ByteArray) ++ (strOfNums y621)) t624 t627 t628 _ (rcS0 HO_621000) (rnS HO_621000) A14.out) ?_; rintro e w21 ⟨v625, rfl, ho0, hb⟩; refine ⟨_, rfl, ?_⟩; have HO626 := Aside0.mk (Kd.S_lower (Kd.S_new' (Kd.S_new' ho0 (ltS0 HO_621000)) (kl_ HO623)) (below_size oB)); replace HO_621000 := elS0 HO_621000 (Kd.S_base ho0) hb; replace HO623 := kr_ HO623 hb; replace BK620 := kb_ BK620 hb; replace HB := Aside0.mk (below_step oB hb)) | ((with_reducible refine gate_dst (N := 6) rfl ?_); refine bx_ 6 #[.slice none 0 0, .int .i64 0] 26 ?_; intro gb629 hg w22 hbox hb; have BK629 := Aside0.mk (hbox); have GW629 := gs_ hg; have NB620_629 := nl_ hg BK620; have NB629_620 := nr_ hg BK620; replace HO_621000 := beS0 HO_621000 hb; replace HO623 := kr_ HO623 hb; replace HO626 := beS0 HO626 hb; replace BK620 := kb_ BK620 hb; replace HB := Aside0.mk (below_step oB hb); clear hb hbox hg; obtain ⟨Ao23, co23, eo23⟩ := Kd.S_slice HO626.out; subst eo23; have hnb24 := NB629_620.out; have hnc24 := NB620_629.out; obtain ⟨⟨_, _⟩, _, _⟩ := z2 BK629; obtain ⟨⟨_, _⟩, _, _⟩ := z2 BK620))
       go_roundg k1
       case measure => have := HK1.out; omega
       case rel => exact ⟨(wrap64 (x5_1 + 1)), (t624), (t627), (.slice Ao23 t624.length co23), oS, H', ⟨by have := HK1.out; omega⟩, ⟨by (with_reducible repeat (first | apply Kd.S_alloc | apply Kd.S_drewN | apply Kd.S_drew)); exact Kd.S_mono (Kd.S_far (p := ⟨gb620, 1, none⟩) (Kd.S_far (p := ⟨gb620, 0, none⟩) (Kd.S_far (p := ⟨gb629, 1, none⟩) (Kd.S_far (p := ⟨gb629, 0, none⟩) (Kd.S_types (Kd.S_types HO626.out BK629.out (by decide)) BK620.out (by decide)) (fun _ hk => hk.1.2) (.slice Ao23 t624.length co23)) (fun _ hk => hk.1.2) (.int .i64 t627)) (fun _ hk => hk.2) (.slice Ao23 t624.length co23)) (fun _ hk => hk.2) (.int .i64 t627)) (fun _ hk => trivial)⟩, ⟨oP BK620⟩, ⟨oB⟩⟩
      ·rw [if_neg c15] at H
       cases H
     ·rw [if_neg c13] at H
      exact absurd H (by simp)
    ·replace H := bA H
     obtain ⟨⟨t630, t633, t634⟩, A37, H⟩ := H
     try dsimp only at H
     replace H := bA H
     obtain ⟨⟨t636, t639, t640⟩, A38, H⟩ := H
     try dsimp only at H
     replace H := bA H
     obtain ⟨⟨t642, t645, t646⟩, A39, H⟩ := H
     try dsimp only at H
     replace H := bA H
     obtain ⟨t648, A40, H⟩ := H
     try dsimp only at H
     obtain ⟨y649, hy649⟩ : ∃ y_ : List Int, y_ = (([(wrap64 (97 + (Int.tmod t648 10))) % 256] : List Int)) := ⟨_, rfl⟩
     replace H : (if 3 + (strOfNums y649).size ≤ 9223372036854775807 then ((impl_Unlink.f k1 x621000_1 x621001_1 ((⟨#[47, 100, 47]⟩ : ByteArray) ++ (strOfNums y649))).bind fun bt652 => ((impl_MakeFile.f k1 bt652.1 bt652.2.1 (⟨#[47, 100, 47, 122]⟩ : ByteArray)).bind fun bt658 => (if t619 = 0 then (if t634 = 5 then (if t640 = 5 then (if t646 = 0 then (if bt652.2.2 = 0 then (some (bt658.2.2 == 0)) else (none)) else (none)) else (none)) else (none)) else (none)))) else (none)) = some r := by first | (rw [hy649]; with_reducible exact H) | (have H2_ := (Option.bind_some _ _).symm.trans H; rw [hy649]; with_reducible exact H2_) | (have H2_ := (Option.bind_some _ _).symm.trans H; with_reducible exact H2_) | with_reducible exact H | (rw [hy649]; exact H) | exact H
     have Ny649 := Aside0.mk hy649
     clear hy649
     by_cases c41 : 3 + (strOfNums y649).size ≤ 9223372036854775807
     ·rw [if_pos c41] at H
      have c41b0 := eq_true c41
      have c41b1 : decide (3 + (strOfNums y649).size ≤ 9223372036854775807) = true := decide_eq_true c41
      try have c41b2 : (9223372036854775807 < 3 + (strOfNums y649).size) = False := eq_false (Nat.not_lt.2 c41)
      replace H := bA H
      obtain ⟨⟨t652, t655, t656⟩, A42, H⟩ := H
      try dsimp only at H
      replace H := bA H
      obtain ⟨⟨t658, t661, t662⟩, A43, H⟩ := H
      try dsimp only at H
      by_cases c44 : t619 = 0
      ·rw [if_pos c44] at H
       have c44b0 : (t619 == 0) = true := beq_iff_eq.mpr c44
       have c44b1 : (t619 != 0) = false := bne_eq_false_iff_eq.mpr c44
       clear c44
       by_cases c45 : t634 = 5
       ·rw [if_pos c45] at H
        have c45b0 : (t634 == 5) = true := beq_iff_eq.mpr c45
        have c45b1 : (t634 != 5) = false := bne_eq_false_iff_eq.mpr c45
        clear c45
        by_cases c46 : t640 = 5
        ·rw [if_pos c46] at H
         have c46b0 : (t640 == 5) = true := beq_iff_eq.mpr c46
         have c46b1 : (t640 != 5) = false := bne_eq_false_iff_eq.mpr c46
         clear c46
         by_cases c47 : t646 = 0
         ·rw [if_pos c47] at H
          have c47b0 : (t646 == 0) = true := beq_iff_eq.mpr c47
          have c47b1 : (t646 != 0) = false := bne_eq_false_iff_eq.mpr c47
          clear c47
          by_cases c48 : t656 = 0
          ·rw [if_pos c48] at H
           have c48b0 : (t656 == 0) = true := beq_iff_eq.mpr c48
           have c48b1 : (t656 != 0) = false := bne_eq_false_iff_eq.mpr c48
           clear c48
           obtain rfl := Option.some.inj H
           obtain ⟨⟨_, _⟩, _, _⟩ := z2 BK620
           obtain ⟨Ao50, co50, eo50⟩ := Kd.S_slice HO_621000.out
           subst eo50
           try go_wp2_with (first | ((with_reducible refine gate_callee (f := 15) rfl ?_); refine gl_ 45 Tryz.func15 (impl_MakeFile.calls k1 _ _ x621000_1 x621001_1 (⟨#[47, 100, 47, 122]⟩ : ByteArray) t630 t633 t634 _ (rcS0 HO_621000) (rnS HO_621000) A37.out) ?_; rintro e w51 ⟨v631, rfl, ho0, hb⟩; refine ⟨_, rfl, ?_⟩; have HO632 := Aside0.mk (Kd.S_lower (Kd.S_new' ho0 (ltS0 HO_621000)) (below_size oB)); replace HO_621000 := elS0 HO_621000 (Kd.S_base ho0) hb; replace BK620 := kb_ BK620 hb; replace HB := Aside0.mk (below_step oB hb)) | ((with_reducible refine gate_dst (N := 8) rfl ?_); refine bx_ 8 #[.slice none 0 0, .int .i64 0] 26 ?_; intro gb635 hg w52 hbox hb; have BK635 := Aside0.mk (hbox); have GW635 := gs_ hg; have NB620_635 := nl_ hg BK620; have NB635_620 := nr_ hg BK620; replace HO_621000 := beS0 HO_621000 hb; replace HO632 := beS0 HO632 hb; replace BK620 := kb_ BK620 hb; replace HB := Aside0.mk (below_step oB hb); clear hb hbox hg; obtain ⟨Ao53, co53, eo53⟩ := Kd.S_slice HO632.out; subst eo53; have hnb54 := NB635_620.out; have hnc54 := NB620_635.out; obtain ⟨⟨_, _⟩, _, _⟩ := z2 BK635; obtain ⟨⟨_, _⟩, _, _⟩ := z2 BK620) | ((with_reducible refine gate_callee (f := 27) rfl ?_); refine gl_ 50 Tryz.func27 (impl_HardLink.calls k1 _ _ x621000_1 x621001_1 (⟨#[47, 100, 47, 97]⟩ : ByteArray) (⟨#[47, 100, 47, 122]⟩ : ByteArray) t636 t639 t640 _ (rcS1 HO_621000 BK635) (rnS HO_621000) A38.out) ?_; rintro e w57 ⟨v637, rfl, ho0, hb⟩; refine ⟨_, rfl, ?_⟩; have HO638 := Aside0.mk (Kd.S_lower (Kd.S_new' (Kd.S_new' ho0 (ltS1 HO_621000 BK635)) (ltS1 HO632 BK635)) (below_size oB)); replace HO_621000 := elS1 HO_621000 BK635 (Kd.S_base ho0) hb; replace HO632 := elS1 HO632 BK635 (Kd.S_base ho0) hb; replace BK620 := kb_ BK620 hb; replace BK635 := kp_ #[.slice Ao53 t630.length co53, .int .i64 t633] BK635 hb; replace HB := Aside0.mk (below_step oB hb); (try clear hk)) | ((with_reducible refine gate_dst (N := 10) rfl ?_); refine bx_ 10 #[.slice none 0 0, .int .i64 0] 26 ?_; intro gb641 hg w58 hbox hb; have BK641 := Aside0.mk (hbox); have GW641 := gs_ hg; have NB620_641 := nl_ hg BK620; have NB641_620 := nr_ hg BK620; have NB635_641 := nl_ hg BK635; have NB641_635 := nr_ hg BK635; replace HO_621000 := beS0 HO_621000 hb; replace HO632 := beS0 HO632 hb; replace HO638 := beS0 HO638 hb; replace BK620 := kb_ BK620 hb; replace BK635 := kb_ BK635 hb; replace HB := Aside0.mk (below_step oB hb); clear hb hbox hg; obtain ⟨Ao59, co59, eo59⟩ := Kd.S_slice HO638.out; subst eo59; have hnb60 := NB641_620.out; have hnc60 := NB620_641.out; have hnb61 := NB641_635.out; have hnc61 := NB635_641.out; obtain ⟨⟨_, _⟩, _, _⟩ := z2 BK641; obtain ⟨⟨_, _⟩, _, _⟩ := z2 BK620) | ((with_reducible refine gate_callee (f := 30) rfl ?_); refine gl_ 55 Tryz.func30 (impl_Rename.calls k1 _ _ x621000_1 x621001_1 (⟨#[47, 100, 47, 97]⟩ : ByteArray) (⟨#[47, 100, 47, 122]⟩ : ByteArray) t642 t645 t646 _ (rcS1 HO_621000 BK641) (rnS HO_621000) A39.out) ?_; rintro e w64 ⟨v643, rfl, ho0, hb⟩; refine ⟨_, rfl, ?_⟩; have HO644 := Aside0.mk (Kd.S_lower (Kd.S_new' (Kd.S_new' (Kd.S_new' ho0 (ltS1 HO_621000 BK641)) (ltS1 HO632 BK641)) (ltS1 HO638 BK641)) (below_size oB)); replace HO_621000 := elS1 HO_621000 BK641 (Kd.S_base ho0) hb; replace HO632 := elS1 HO632 BK641 (Kd.S_base ho0) hb; replace HO638 := elS1 HO638 BK641 (Kd.S_base ho0) hb; replace BK620 := kb_ BK620 hb; replace BK635 := kb_ BK635 hb; replace BK641 := kp_ #[.slice Ao59 t636.length co59, .int .i64 t639] BK641 hb; replace HB := Aside0.mk (below_step oB hb); (try clear hk)) | ((with_reducible refine gate_dst (N := 12) rfl ?_); refine bx_ 12 #[.slice none 0 0, .int .i64 0] 26 ?_; intro gb647 hg w65 hbox hb; have BK647 := Aside0.mk (hbox); have GW647 := gs_ hg; have NB620_647 := nl_ hg BK620; have NB647_620 := nr_ hg BK620; have NB635_647 := nl_ hg BK635; have NB647_635 := nr_ hg BK635; have NB641_647 := nl_ hg BK641; have NB647_641 := nr_ hg BK641; replace HO_621000 := beS0 HO_621000 hb; replace HO632 := beS0 HO632 hb; replace HO638 := beS0 HO638 hb; replace HO644 := beS0 HO644 hb; replace BK620 := kb_ BK620 hb; replace BK635 := kb_ BK635 hb; replace BK641 := kb_ BK641 hb; replace HB := Aside0.mk (below_step oB hb); clear hb hbox hg; obtain ⟨Ao66, co66, eo66⟩ := Kd.S_slice HO644.out; subst eo66; have hnb67 := NB647_620.out; have hnc67 := NB620_647.out; have hnb68 := NB647_635.out; have hnc68 := NB635_647.out; have hnb69 := NB647_641.out; have hnc69 := NB641_647.out; obtain ⟨⟨_, _⟩, _, _⟩ := z2 BK647))
           have n0_ : Aside0 (Kd.S k51 51 ((w65.setCell ⟨gb647, 0, none⟩ (.slice Ao66 t642.length co66)).setCell ⟨gb647, 1, none⟩ (.int .i64 t645)) w.heap.size (fun k_ => some k_ ≠ (.slice Ao53 t630.length co53 : Value).ownBlock ∧ some k_ ≠ (.slice Ao59 t636.length co59 : Value).ownBlock ∧ some k_ ≠ (.slice Ao66 t642.length co66 : Value).ownBlock) (.slice Ao50 x621000_1.length co50) x621000_1) := ⟨by (with_reducible repeat (first | apply Kd.S_alloc | apply Kd.S_drewN | apply Kd.S_drew)); exact Kd.S_mono (Kd.S_far (p := ⟨gb647, 1, none⟩) (Kd.S_far (p := ⟨gb647, 0, none⟩) (Kd.S_types HO_621000.out BK647.out (by decide)) (fun _ hk => hk.2) (.slice Ao66 t642.length co66)) (fun _ hk => hk.2) (.int .i64 t645)) (fun _ hk => ⟨hk.1.1.1.2, ⟨hk.1.1.2, hk.1.2⟩⟩)⟩
           have n1_ : Aside0 (Kd.S k51 51 ((w65.setCell ⟨gb647, 0, none⟩ (.slice Ao66 t642.length co66)).setCell ⟨gb647, 1, none⟩ (.int .i64 t645)) w.heap.size (fun k_ => some k_ ≠ (.slice Ao50 x621000_1.length co50 : Value).ownBlock ∧ some k_ ≠ (.slice Ao59 t636.length co59 : Value).ownBlock ∧ some k_ ≠ (.slice Ao66 t642.length co66 : Value).ownBlock) (.slice Ao53 t630.length co53) t630) := ⟨by (with_reducible repeat (first | apply Kd.S_alloc | apply Kd.S_drewN | apply Kd.S_drew)); exact Kd.S_mono (Kd.S_far (p := ⟨gb647, 1, none⟩) (Kd.S_far (p := ⟨gb647, 0, none⟩) (Kd.S_types HO632.out BK647.out (by decide)) (fun _ hk => hk.2) (.slice Ao66 t642.length co66)) (fun _ hk => hk.2) (.int .i64 t645)) (fun _ hk => ⟨hk.1.1.1.2, ⟨hk.1.1.2, hk.1.2⟩⟩)⟩
           have n2_ : Aside0 (Kd.S k51 51 ((w65.setCell ⟨gb647, 0, none⟩ (.slice Ao66 t642.length co66)).setCell ⟨gb647, 1, none⟩ (.int .i64 t645)) w.heap.size (fun k_ => some k_ ≠ (.slice Ao50 x621000_1.length co50 : Value).ownBlock ∧ some k_ ≠ (.slice Ao53 t630.length co53 : Value).ownBlock ∧ some k_ ≠ (.slice Ao66 t642.length co66 : Value).ownBlock) (.slice Ao59 t636.length co59) t636) := ⟨by (with_reducible repeat (first | apply Kd.S_alloc | apply Kd.S_drewN | apply Kd.S_drew)); exact Kd.S_mono (Kd.S_far (p := ⟨gb647, 1, none⟩) (Kd.S_far (p := ⟨gb647, 0, none⟩) (Kd.S_types HO638.out BK647.out (by decide)) (fun _ hk => hk.2) (.slice Ao66 t642.length co66)) (fun _ hk => hk.2) (.int .i64 t645)) (fun _ hk => ⟨hk.1.1.1.2, ⟨hk.1.1.2, hk.1.2⟩⟩)⟩
           have n3_ : Aside0 (Kd.S k51 51 ((w65.setCell ⟨gb647, 0, none⟩ (.slice Ao66 t642.length co66)).setCell ⟨gb647, 1, none⟩ (.int .i64 t645)) w.heap.size (fun k_ => some k_ ≠ (.slice Ao50 x621000_1.length co50 : Value).ownBlock ∧ some k_ ≠ (.slice Ao53 t630.length co53 : Value).ownBlock ∧ some k_ ≠ (.slice Ao59 t636.length co59 : Value).ownBlock) (.slice Ao66 t642.length co66) t642) := ⟨by (with_reducible repeat (first | apply Kd.S_alloc | apply Kd.S_drewN | apply Kd.S_drew)); exact Kd.S_mono (Kd.S_far (p := ⟨gb647, 1, none⟩) (Kd.S_far (p := ⟨gb647, 0, none⟩) (Kd.S_types HO644.out BK647.out (by decide)) (fun _ hk => hk.2) (.slice Ao66 t642.length co66)) (fun _ hk => hk.2) (.int .i64 t645)) (fun _ hk => ⟨hk.1.1.1.2, ⟨hk.1.1.2, hk.1.2⟩⟩)⟩
           have n4_ : Aside0 (((w65.setCell ⟨gb647, 0, none⟩ (.slice Ao66 t642.length co66)).setCell ⟨gb647, 1, none⟩ (.int .i64 t645)).heap[gb620]? = some (.cells #[.slice Ao50 x621000_1.length co50, .int .i64 x621001_1] 26 (0, 0))) := ⟨oF BK620⟩
           have n5_ : Aside0 (((w65.setCell ⟨gb647, 0, none⟩ (.slice Ao66 t642.length co66)).setCell ⟨gb647, 1, none⟩ (.int .i64 t645)).heap[gb635]? = some (.cells #[.slice Ao53 t630.length co53, .int .i64 t633] 26 (0, 0))) := ⟨oF BK635⟩
           have n6_ : Aside0 (((w65.setCell ⟨gb647, 0, none⟩ (.slice Ao66 t642.length co66)).setCell ⟨gb647, 1, none⟩ (.int .i64 t645)).heap[gb641]? = some (.cells #[.slice Ao59 t636.length co59, .int .i64 t639] 26 (0, 0))) := ⟨oF BK641⟩
           have n7_ : Aside0 (((w65.setCell ⟨gb647, 0, none⟩ (.slice Ao66 t642.length co66)).setCell ⟨gb647, 1, none⟩ (.int .i64 t645)).heap[gb647]? = some (.cells #[.slice Ao66 t642.length co66, .int .i64 t645] 26 (0, 0))) := ⟨oP BK647⟩
           have n8_ : Aside0 (Below w.heap.size w ((w65.setCell ⟨gb647, 0, none⟩ (.slice Ao66 t642.length co66)).setCell ⟨gb647, 1, none⟩ (.int .i64 t645))) := ⟨oB⟩
           (try clear HO_621000)
           (try clear HO632)
           (try clear HO638)
           (try clear HO644)
           (try clear BK620)
           (try clear BK635)
           (try clear BK641)
           (try clear BK647)
           (try clear HB)
           generalize ((w65.setCell ⟨gb647, 0, none⟩ (.slice Ao66 t642.length co66)).setCell ⟨gb647, 1, none⟩ (.int .i64 t645)) = w71 at n0_ n1_ n2_ n3_ n4_ n5_ n6_ n7_ n8_ ⊢
           have HO_621000 := n0_
           have HO632 := n1_
           have HO638 := n2_
           have HO644 := n3_
           have BK620 := n4_
           have BK635 := n5_
           have BK641 := n6_
           have BK647 := n7_
           have HB := n8_
           clear n0_ n1_ n2_ n3_ n4_ n5_ n6_ n7_ n8_
           replace HO_621000 := Aside0.mk (Kd.S_drew HO_621000.out)
           replace HO632 := Aside0.mk (Kd.S_drew HO632.out)
           replace HO638 := Aside0.mk (Kd.S_drew HO638.out)
           replace HO644 := Aside0.mk (Kd.S_drew HO644.out)
           replace BK620 := Aside0.mk (blk_drew BK620.out)
           replace BK635 := Aside0.mk (blk_drew BK635.out)
           replace BK641 := Aside0.mk (blk_drew BK641.out)
           replace BK647 := Aside0.mk (blk_drew BK647.out)
           replace HB := Aside0.mk (below_drew1 HB.out)
           refine st_ 16 (fun w' => w'.cell? ⟨gb620, 0, none⟩ = some (.slice Ao50 x621000_1.length co50) ∧ w'.cell? ⟨gb620, 1, none⟩ = some (.int .i64 x621001_1)) laws_FnFullDir.tab14 laws_FnFullDir.bits14 oH (fun hHeld HT_ HW_ => ?_)
           generalize w71.drew = w72 at HO_621000 HO632 HO638 HO644 BK620 BK635 BK641 BK647 HB hHeld ⊢
           refine pu_ 1 60 HT_ ?_
           refine ta_ 0 59 HT_ HW_ hHeld ?_
           refine join_ (σ := Value × Value × Nat) 2 (lb 16 16383) (fun s_ => [(61, .int .i64 t648), (65, s_.1), (66, .string (strOfNums y649)), (68, .tuple #[.agg #[s_.2.1, .int .i64 t655], .int .i64 t656]), (14, .pointer (some ⟨s_.2.2, 0, none⟩)), (62, .int .i64 (Int.tmod t648 10)), (63, .int .i64 (wrap64 (97 + (Int.tmod t648 10)))), (64, .int .u8 ((wrap64 (97 + (Int.tmod t648 10))) % 256)), (67, .string ((⟨#[47, 100, 47]⟩ : ByteArray) ++ (strOfNums y649))), (58, .tuple #[.agg #[s_.2.1, .int .i64 t655], .int .i64 t656]), (69, .agg #[s_.2.1, .int .i64 t655]), (70, .int .i64 t656)]) (fun s_ w' => (w'.cell? ⟨gb620, 0, none⟩ = some (.slice Ao50 x621000_1.length co50) ∧ w'.cell? ⟨gb620, 1, none⟩ = some (.int .i64 x621001_1)) ∧ (Kd.S k51 51 w' w.heap.size (fun k_ => some k_ ≠ (.slice Ao59 t636.length co59 : Value).ownBlock ∧ some k_ ≠ (.slice Ao66 t642.length co66 : Value).ownBlock ∧ some k_ ≠ (s_.1 : Value).ownBlock ∧ some k_ ≠ (s_.2.1 : Value).ownBlock ∧ some k_ ≠ (.slice Ao50 x621000_1.length co50 : Value).ownBlock) (.slice Ao53 t630.length co53) t630) ∧ (Kd.S k51 51 w' w.heap.size (fun k_ => some k_ ≠ (.slice Ao53 t630.length co53 : Value).ownBlock ∧ some k_ ≠ (.slice Ao66 t642.length co66 : Value).ownBlock ∧ some k_ ≠ (s_.1 : Value).ownBlock ∧ some k_ ≠ (s_.2.1 : Value).ownBlock ∧ some k_ ≠ (.slice Ao50 x621000_1.length co50 : Value).ownBlock) (.slice Ao59 t636.length co59) t636) ∧ (Kd.S k51 51 w' w.heap.size (fun k_ => some k_ ≠ (.slice Ao53 t630.length co53 : Value).ownBlock ∧ some k_ ≠ (.slice Ao59 t636.length co59 : Value).ownBlock ∧ some k_ ≠ (s_.1 : Value).ownBlock ∧ some k_ ≠ (s_.2.1 : Value).ownBlock ∧ some k_ ≠ (.slice Ao50 x621000_1.length co50 : Value).ownBlock) (.slice Ao66 t642.length co66) t642) ∧ (Kd.R (Kd.int .u8) 5 w' w.heap.size (fun _ => True) s_.1 y649) ∧ (Kd.S k51 51 w' w.heap.size (fun k_ => some k_ ≠ (.slice Ao53 t630.length co53 : Value).ownBlock ∧ some k_ ≠ (.slice Ao59 t636.length co59 : Value).ownBlock ∧ some k_ ≠ (.slice Ao66 t642.length co66 : Value).ownBlock ∧ some k_ ≠ (s_.1 : Value).ownBlock ∧ some k_ ≠ (.slice Ao50 x621000_1.length co50 : Value).ownBlock) s_.2.1 t652) ∧ (Kd.S k51 51 w' w.heap.size (fun k_ => some k_ ≠ (.slice Ao53 t630.length co53 : Value).ownBlock ∧ some k_ ≠ (.slice Ao59 t636.length co59 : Value).ownBlock ∧ some k_ ≠ (.slice Ao66 t642.length co66 : Value).ownBlock ∧ some k_ ≠ (s_.1 : Value).ownBlock ∧ some k_ ≠ (s_.2.1 : Value).ownBlock) (.slice Ao50 x621000_1.length co50) x621000_1) ∧ (w'.heap[gb620]? = some (.cells #[.slice Ao50 x621000_1.length co50, .int .i64 x621001_1] 26 (0, 0))) ∧ (w'.heap[gb635]? = some (.cells #[.slice Ao53 t630.length co53, .int .i64 t633] 26 (0, 0))) ∧ (w'.heap[gb641]? = some (.cells #[.slice Ao59 t636.length co59, .int .i64 t639] 26 (0, 0))) ∧ (w'.heap[gb647]? = some (.cells #[.slice Ao66 t642.length co66, .int .i64 t645] 26 (0, 0))) ∧ (w'.heap[s_.2.2]? = some (.cells #[.slice none 0 0, .int .i64 0] 26 (0, 0))) ∧ (w.heap.size ≤ s_.2.2) ∧ (w.heap.size ≤ s_.2.2) ∧ (gb620 ≠ s_.2.2) ∧ (s_.2.2 ≠ gb620) ∧ (gb635 ≠ s_.2.2) ∧ (s_.2.2 ≠ gb635) ∧ (gb641 ≠ s_.2.2) ∧ (s_.2.2 ≠ gb641) ∧ (gb647 ≠ s_.2.2) ∧ (s_.2.2 ≠ gb647) ∧ (Below w.heap.size w w')) ?_ ?_
           rotate_left
           ·intro hJ2_6_7_9_13
            refine join_ (σ := Value × Value) 3 (lb 16 8191) (fun s_ => [(61, .int .i64 t648), (65, s_.1), (66, .string (strOfNums y649)), (68, .tuple #[.agg #[s_.2, .int .i64 t655], .int .i64 t656]), (62, .int .i64 (Int.tmod t648 10)), (63, .int .i64 (wrap64 (97 + (Int.tmod t648 10)))), (64, .int .u8 ((wrap64 (97 + (Int.tmod t648 10))) % 256)), (67, .string ((⟨#[47, 100, 47]⟩ : ByteArray) ++ (strOfNums y649))), (58, .tuple #[.agg #[s_.2, .int .i64 t655], .int .i64 t656]), (69, .agg #[s_.2, .int .i64 t655]), (70, .int .i64 t656)]) (fun s_ w' => (w'.cell? ⟨gb620, 0, none⟩ = some (.slice Ao50 x621000_1.length co50) ∧ w'.cell? ⟨gb620, 1, none⟩ = some (.int .i64 x621001_1)) ∧ (Kd.S k51 51 w' w.heap.size (fun k_ => some k_ ≠ (.slice Ao59 t636.length co59 : Value).ownBlock ∧ some k_ ≠ (.slice Ao66 t642.length co66 : Value).ownBlock ∧ some k_ ≠ (s_.1 : Value).ownBlock ∧ some k_ ≠ (s_.2 : Value).ownBlock ∧ some k_ ≠ (.slice Ao50 x621000_1.length co50 : Value).ownBlock) (.slice Ao53 t630.length co53) t630) ∧ (Kd.S k51 51 w' w.heap.size (fun k_ => some k_ ≠ (.slice Ao53 t630.length co53 : Value).ownBlock ∧ some k_ ≠ (.slice Ao66 t642.length co66 : Value).ownBlock ∧ some k_ ≠ (s_.1 : Value).ownBlock ∧ some k_ ≠ (s_.2 : Value).ownBlock ∧ some k_ ≠ (.slice Ao50 x621000_1.length co50 : Value).ownBlock) (.slice Ao59 t636.length co59) t636) ∧ (Kd.S k51 51 w' w.heap.size (fun k_ => some k_ ≠ (.slice Ao53 t630.length co53 : Value).ownBlock ∧ some k_ ≠ (.slice Ao59 t636.length co59 : Value).ownBlock ∧ some k_ ≠ (s_.1 : Value).ownBlock ∧ some k_ ≠ (s_.2 : Value).ownBlock ∧ some k_ ≠ (.slice Ao50 x621000_1.length co50 : Value).ownBlock) (.slice Ao66 t642.length co66) t642) ∧ (Kd.R (Kd.int .u8) 5 w' w.heap.size (fun _ => True) s_.1 y649) ∧ (Kd.S k51 51 w' w.heap.size (fun k_ => some k_ ≠ (.slice Ao53 t630.length co53 : Value).ownBlock ∧ some k_ ≠ (.slice Ao59 t636.length co59 : Value).ownBlock ∧ some k_ ≠ (.slice Ao66 t642.length co66 : Value).ownBlock ∧ some k_ ≠ (s_.1 : Value).ownBlock ∧ some k_ ≠ (.slice Ao50 x621000_1.length co50 : Value).ownBlock) s_.2 t652) ∧ (Kd.S k51 51 w' w.heap.size (fun k_ => some k_ ≠ (.slice Ao53 t630.length co53 : Value).ownBlock ∧ some k_ ≠ (.slice Ao59 t636.length co59 : Value).ownBlock ∧ some k_ ≠ (.slice Ao66 t642.length co66 : Value).ownBlock ∧ some k_ ≠ (s_.1 : Value).ownBlock ∧ some k_ ≠ (s_.2 : Value).ownBlock) (.slice Ao50 x621000_1.length co50) x621000_1) ∧ (w'.heap[gb620]? = some (.cells #[.slice Ao50 x621000_1.length co50, .int .i64 x621001_1] 26 (0, 0))) ∧ (w'.heap[gb635]? = some (.cells #[.slice Ao53 t630.length co53, .int .i64 t633] 26 (0, 0))) ∧ (w'.heap[gb641]? = some (.cells #[.slice Ao59 t636.length co59, .int .i64 t639] 26 (0, 0))) ∧ (w'.heap[gb647]? = some (.cells #[.slice Ao66 t642.length co66, .int .i64 t645] 26 (0, 0))) ∧ (Below w.heap.size w w')) ?_ ?_
            rotate_left
            ·intro hJ2_6_7_9
             refine join_ (σ := Value × Nat) 6 (lb 16 8703) (fun s_ => [(61, .int .i64 t648), (65, s_.1), (66, .string (strOfNums y649)), (14, .pointer (some ⟨s_.2, 0, none⟩)), (62, .int .i64 (Int.tmod t648 10)), (63, .int .i64 (wrap64 (97 + (Int.tmod t648 10)))), (64, .int .u8 ((wrap64 (97 + (Int.tmod t648 10))) % 256)), (67, .string ((⟨#[47, 100, 47]⟩ : ByteArray) ++ (strOfNums y649)))]) (fun s_ w' => (w'.cell? ⟨gb620, 0, none⟩ = some (.slice Ao50 x621000_1.length co50) ∧ w'.cell? ⟨gb620, 1, none⟩ = some (.int .i64 x621001_1)) ∧ (Kd.S k51 51 w' w.heap.size (fun k_ => some k_ ≠ (.slice Ao59 t636.length co59 : Value).ownBlock ∧ some k_ ≠ (.slice Ao66 t642.length co66 : Value).ownBlock ∧ some k_ ≠ (s_.1 : Value).ownBlock ∧ some k_ ≠ (.slice Ao50 x621000_1.length co50 : Value).ownBlock) (.slice Ao53 t630.length co53) t630) ∧ (Kd.S k51 51 w' w.heap.size (fun k_ => some k_ ≠ (.slice Ao53 t630.length co53 : Value).ownBlock ∧ some k_ ≠ (.slice Ao66 t642.length co66 : Value).ownBlock ∧ some k_ ≠ (s_.1 : Value).ownBlock ∧ some k_ ≠ (.slice Ao50 x621000_1.length co50 : Value).ownBlock) (.slice Ao59 t636.length co59) t636) ∧ (Kd.S k51 51 w' w.heap.size (fun k_ => some k_ ≠ (.slice Ao53 t630.length co53 : Value).ownBlock ∧ some k_ ≠ (.slice Ao59 t636.length co59 : Value).ownBlock ∧ some k_ ≠ (s_.1 : Value).ownBlock ∧ some k_ ≠ (.slice Ao50 x621000_1.length co50 : Value).ownBlock) (.slice Ao66 t642.length co66) t642) ∧ (Kd.R (Kd.int .u8) 5 w' w.heap.size (fun _ => True) s_.1 y649) ∧ (Kd.S k51 51 w' w.heap.size (fun k_ => some k_ ≠ (.slice Ao53 t630.length co53 : Value).ownBlock ∧ some k_ ≠ (.slice Ao59 t636.length co59 : Value).ownBlock ∧ some k_ ≠ (.slice Ao66 t642.length co66 : Value).ownBlock ∧ some k_ ≠ (s_.1 : Value).ownBlock) (.slice Ao50 x621000_1.length co50) x621000_1) ∧ (w'.heap[gb620]? = some (.cells #[.slice Ao50 x621000_1.length co50, .int .i64 x621001_1] 26 (0, 0))) ∧ (w'.heap[gb635]? = some (.cells #[.slice Ao53 t630.length co53, .int .i64 t633] 26 (0, 0))) ∧ (w'.heap[gb641]? = some (.cells #[.slice Ao59 t636.length co59, .int .i64 t639] 26 (0, 0))) ∧ (w'.heap[gb647]? = some (.cells #[.slice Ao66 t642.length co66, .int .i64 t645] 26 (0, 0))) ∧ (w'.heap[s_.2]? = some (.cells #[.slice none 0 0, .int .i64 0] 26 (0, 0))) ∧ (w.heap.size ≤ s_.2) ∧ (w.heap.size ≤ s_.2) ∧ (gb620 ≠ s_.2) ∧ (s_.2 ≠ gb620) ∧ (gb635 ≠ s_.2) ∧ (s_.2 ≠ gb635) ∧ (gb641 ≠ s_.2) ∧ (s_.2 ≠ gb641) ∧ (gb647 ≠ s_.2) ∧ (s_.2 ≠ gb647) ∧ (Below w.heap.size w w')) ?_ ?_
             rotate_left
             ·intro hJ2_6_7_13
              refine join_ (σ := Value) 7 (lb 16 511) (fun s_ => [(61, .int .i64 t648), (65, s_), (66, .string (strOfNums y649)), (62, .int .i64 (Int.tmod t648 10)), (63, .int .i64 (wrap64 (97 + (Int.tmod t648 10)))), (64, .int .u8 ((wrap64 (97 + (Int.tmod t648 10))) % 256)), (67, .string ((⟨#[47, 100, 47]⟩ : ByteArray) ++ (strOfNums y649)))]) (fun s_ w' => (w'.cell? ⟨gb620, 0, none⟩ = some (.slice Ao50 x621000_1.length co50) ∧ w'.cell? ⟨gb620, 1, none⟩ = some (.int .i64 x621001_1)) ∧ (Kd.S k51 51 w' w.heap.size (fun k_ => some k_ ≠ (.slice Ao59 t636.length co59 : Value).ownBlock ∧ some k_ ≠ (.slice Ao66 t642.length co66 : Value).ownBlock ∧ some k_ ≠ (s_ : Value).ownBlock ∧ some k_ ≠ (.slice Ao50 x621000_1.length co50 : Value).ownBlock) (.slice Ao53 t630.length co53) t630) ∧ (Kd.S k51 51 w' w.heap.size (fun k_ => some k_ ≠ (.slice Ao53 t630.length co53 : Value).ownBlock ∧ some k_ ≠ (.slice Ao66 t642.length co66 : Value).ownBlock ∧ some k_ ≠ (s_ : Value).ownBlock ∧ some k_ ≠ (.slice Ao50 x621000_1.length co50 : Value).ownBlock) (.slice Ao59 t636.length co59) t636) ∧ (Kd.S k51 51 w' w.heap.size (fun k_ => some k_ ≠ (.slice Ao53 t630.length co53 : Value).ownBlock ∧ some k_ ≠ (.slice Ao59 t636.length co59 : Value).ownBlock ∧ some k_ ≠ (s_ : Value).ownBlock ∧ some k_ ≠ (.slice Ao50 x621000_1.length co50 : Value).ownBlock) (.slice Ao66 t642.length co66) t642) ∧ (Kd.R (Kd.int .u8) 5 w' w.heap.size (fun _ => True) s_ y649) ∧ (Kd.S k51 51 w' w.heap.size (fun k_ => some k_ ≠ (.slice Ao53 t630.length co53 : Value).ownBlock ∧ some k_ ≠ (.slice Ao59 t636.length co59 : Value).ownBlock ∧ some k_ ≠ (.slice Ao66 t642.length co66 : Value).ownBlock ∧ some k_ ≠ (s_ : Value).ownBlock) (.slice Ao50 x621000_1.length co50) x621000_1) ∧ (w'.heap[gb620]? = some (.cells #[.slice Ao50 x621000_1.length co50, .int .i64 x621001_1] 26 (0, 0))) ∧ (w'.heap[gb635]? = some (.cells #[.slice Ao53 t630.length co53, .int .i64 t633] 26 (0, 0))) ∧ (w'.heap[gb641]? = some (.cells #[.slice Ao59 t636.length co59, .int .i64 t639] 26 (0, 0))) ∧ (w'.heap[gb647]? = some (.cells #[.slice Ao66 t642.length co66, .int .i64 t645] 26 (0, 0))) ∧ (Below w.heap.size w w')) ?_ ?_
              rotate_left
              ·intro hJ2_6_7
               refine join_ (σ := Value × Nat) 8 (lb 16 8319) (fun s_ => [(61, .int .i64 t648), (65, s_.1), (14, .pointer (some ⟨s_.2, 0, none⟩)), (62, .int .i64 (Int.tmod t648 10)), (63, .int .i64 (wrap64 (97 + (Int.tmod t648 10)))), (64, .int .u8 ((wrap64 (97 + (Int.tmod t648 10))) % 256))]) (fun s_ w' => (w'.cell? ⟨gb620, 0, none⟩ = some (.slice Ao50 x621000_1.length co50) ∧ w'.cell? ⟨gb620, 1, none⟩ = some (.int .i64 x621001_1)) ∧ (Kd.S k51 51 w' w.heap.size (fun k_ => some k_ ≠ (.slice Ao59 t636.length co59 : Value).ownBlock ∧ some k_ ≠ (.slice Ao66 t642.length co66 : Value).ownBlock ∧ some k_ ≠ (s_.1 : Value).ownBlock ∧ some k_ ≠ (.slice Ao50 x621000_1.length co50 : Value).ownBlock) (.slice Ao53 t630.length co53) t630) ∧ (Kd.S k51 51 w' w.heap.size (fun k_ => some k_ ≠ (.slice Ao53 t630.length co53 : Value).ownBlock ∧ some k_ ≠ (.slice Ao66 t642.length co66 : Value).ownBlock ∧ some k_ ≠ (s_.1 : Value).ownBlock ∧ some k_ ≠ (.slice Ao50 x621000_1.length co50 : Value).ownBlock) (.slice Ao59 t636.length co59) t636) ∧ (Kd.S k51 51 w' w.heap.size (fun k_ => some k_ ≠ (.slice Ao53 t630.length co53 : Value).ownBlock ∧ some k_ ≠ (.slice Ao59 t636.length co59 : Value).ownBlock ∧ some k_ ≠ (s_.1 : Value).ownBlock ∧ some k_ ≠ (.slice Ao50 x621000_1.length co50 : Value).ownBlock) (.slice Ao66 t642.length co66) t642) ∧ (Kd.R (Kd.int .u8) 5 w' w.heap.size (fun _ => True) s_.1 y649) ∧ (Kd.S k51 51 w' w.heap.size (fun k_ => some k_ ≠ (.slice Ao53 t630.length co53 : Value).ownBlock ∧ some k_ ≠ (.slice Ao59 t636.length co59 : Value).ownBlock ∧ some k_ ≠ (.slice Ao66 t642.length co66 : Value).ownBlock ∧ some k_ ≠ (s_.1 : Value).ownBlock) (.slice Ao50 x621000_1.length co50) x621000_1) ∧ (w'.heap[gb620]? = some (.cells #[.slice Ao50 x621000_1.length co50, .int .i64 x621001_1] 26 (0, 0))) ∧ (w'.heap[gb635]? = some (.cells #[.slice Ao53 t630.length co53, .int .i64 t633] 26 (0, 0))) ∧ (w'.heap[gb641]? = some (.cells #[.slice Ao59 t636.length co59, .int .i64 t639] 26 (0, 0))) ∧ (w'.heap[gb647]? = some (.cells #[.slice Ao66 t642.length co66, .int .i64 t645] 26 (0, 0))) ∧ (w'.heap[s_.2]? = some (.cells #[.slice none 0 0, .int .i64 0] 26 (0, 0))) ∧ (w.heap.size ≤ s_.2) ∧ (w.heap.size ≤ s_.2) ∧ (gb620 ≠ s_.2) ∧ (s_.2 ≠ gb620) ∧ (gb635 ≠ s_.2) ∧ (s_.2 ≠ gb635) ∧ (gb641 ≠ s_.2) ∧ (s_.2 ≠ gb641) ∧ (gb647 ≠ s_.2) ∧ (s_.2 ≠ gb647) ∧ (Below w.heap.size w w')) ?_ ?_
               rotate_left
               ·intro hJ2_6_13
                refine join_ (σ := Value) 9 (lb 16 127) (fun s_ => [(61, .int .i64 t648), (65, s_), (62, .int .i64 (Int.tmod t648 10)), (63, .int .i64 (wrap64 (97 + (Int.tmod t648 10)))), (64, .int .u8 ((wrap64 (97 + (Int.tmod t648 10))) % 256))]) (fun s_ w' => (w'.cell? ⟨gb620, 0, none⟩ = some (.slice Ao50 x621000_1.length co50) ∧ w'.cell? ⟨gb620, 1, none⟩ = some (.int .i64 x621001_1)) ∧ (Kd.S k51 51 w' w.heap.size (fun k_ => some k_ ≠ (.slice Ao59 t636.length co59 : Value).ownBlock ∧ some k_ ≠ (.slice Ao66 t642.length co66 : Value).ownBlock ∧ some k_ ≠ (s_ : Value).ownBlock ∧ some k_ ≠ (.slice Ao50 x621000_1.length co50 : Value).ownBlock) (.slice Ao53 t630.length co53) t630) ∧ (Kd.S k51 51 w' w.heap.size (fun k_ => some k_ ≠ (.slice Ao53 t630.length co53 : Value).ownBlock ∧ some k_ ≠ (.slice Ao66 t642.length co66 : Value).ownBlock ∧ some k_ ≠ (s_ : Value).ownBlock ∧ some k_ ≠ (.slice Ao50 x621000_1.length co50 : Value).ownBlock) (.slice Ao59 t636.length co59) t636) ∧ (Kd.S k51 51 w' w.heap.size (fun k_ => some k_ ≠ (.slice Ao53 t630.length co53 : Value).ownBlock ∧ some k_ ≠ (.slice Ao59 t636.length co59 : Value).ownBlock ∧ some k_ ≠ (s_ : Value).ownBlock ∧ some k_ ≠ (.slice Ao50 x621000_1.length co50 : Value).ownBlock) (.slice Ao66 t642.length co66) t642) ∧ (Kd.R (Kd.int .u8) 5 w' w.heap.size (fun _ => True) s_ y649) ∧ (Kd.S k51 51 w' w.heap.size (fun k_ => some k_ ≠ (.slice Ao53 t630.length co53 : Value).ownBlock ∧ some k_ ≠ (.slice Ao59 t636.length co59 : Value).ownBlock ∧ some k_ ≠ (.slice Ao66 t642.length co66 : Value).ownBlock ∧ some k_ ≠ (s_ : Value).ownBlock) (.slice Ao50 x621000_1.length co50) x621000_1) ∧ (w'.heap[gb620]? = some (.cells #[.slice Ao50 x621000_1.length co50, .int .i64 x621001_1] 26 (0, 0))) ∧ (w'.heap[gb635]? = some (.cells #[.slice Ao53 t630.length co53, .int .i64 t633] 26 (0, 0))) ∧ (w'.heap[gb641]? = some (.cells #[.slice Ao59 t636.length co59, .int .i64 t639] 26 (0, 0))) ∧ (w'.heap[gb647]? = some (.cells #[.slice Ao66 t642.length co66, .int .i64 t645] 26 (0, 0))) ∧ (Below w.heap.size w w')) ?_ ?_
                rotate_left
                ·intro hJ2_6
                 refine join_ (σ := Nat) 9 (lb 16 8255) (fun s_ => [(61, .int .i64 t648), (14, .pointer (some ⟨s_, 0, none⟩)), (62, .int .i64 (Int.tmod t648 10)), (63, .int .i64 (wrap64 (97 + (Int.tmod t648 10)))), (64, .int .u8 ((wrap64 (97 + (Int.tmod t648 10))) % 256))]) (fun s_ w' => (w'.cell? ⟨gb620, 0, none⟩ = some (.slice Ao50 x621000_1.length co50) ∧ w'.cell? ⟨gb620, 1, none⟩ = some (.int .i64 x621001_1)) ∧ (Kd.S k51 51 w' w.heap.size (fun k_ => some k_ ≠ (.slice Ao59 t636.length co59 : Value).ownBlock ∧ some k_ ≠ (.slice Ao66 t642.length co66 : Value).ownBlock ∧ some k_ ≠ (.slice Ao50 x621000_1.length co50 : Value).ownBlock) (.slice Ao53 t630.length co53) t630) ∧ (Kd.S k51 51 w' w.heap.size (fun k_ => some k_ ≠ (.slice Ao53 t630.length co53 : Value).ownBlock ∧ some k_ ≠ (.slice Ao66 t642.length co66 : Value).ownBlock ∧ some k_ ≠ (.slice Ao50 x621000_1.length co50 : Value).ownBlock) (.slice Ao59 t636.length co59) t636) ∧ (Kd.S k51 51 w' w.heap.size (fun k_ => some k_ ≠ (.slice Ao53 t630.length co53 : Value).ownBlock ∧ some k_ ≠ (.slice Ao59 t636.length co59 : Value).ownBlock ∧ some k_ ≠ (.slice Ao50 x621000_1.length co50 : Value).ownBlock) (.slice Ao66 t642.length co66) t642) ∧ (Kd.S k51 51 w' w.heap.size (fun k_ => some k_ ≠ (.slice Ao53 t630.length co53 : Value).ownBlock ∧ some k_ ≠ (.slice Ao59 t636.length co59 : Value).ownBlock ∧ some k_ ≠ (.slice Ao66 t642.length co66 : Value).ownBlock) (.slice Ao50 x621000_1.length co50) x621000_1) ∧ (w'.heap[gb620]? = some (.cells #[.slice Ao50 x621000_1.length co50, .int .i64 x621001_1] 26 (0, 0))) ∧ (w'.heap[gb635]? = some (.cells #[.slice Ao53 t630.length co53, .int .i64 t633] 26 (0, 0))) ∧ (w'.heap[gb641]? = some (.cells #[.slice Ao59 t636.length co59, .int .i64 t639] 26 (0, 0))) ∧ (w'.heap[gb647]? = some (.cells #[.slice Ao66 t642.length co66, .int .i64 t645] 26 (0, 0))) ∧ (w'.heap[s_]? = some (.cells #[.slice none 0 0, .int .i64 0] 26 (0, 0))) ∧ (w.heap.size ≤ s_) ∧ (w.heap.size ≤ s_) ∧ (gb620 ≠ s_) ∧ (s_ ≠ gb620) ∧ (gb635 ≠ s_) ∧ (s_ ≠ gb635) ∧ (gb641 ≠ s_) ∧ (s_ ≠ gb641) ∧ (gb647 ≠ s_) ∧ (s_ ≠ gb647) ∧ (Below w.heap.size w w')) ?_ ?_
                 rotate_left
                 ·intro hJ2_13
                  refine join_ (σ := Unit) 10 (lb 16 63) (fun s_ => [(61, .int .i64 t648), (62, .int .i64 (Int.tmod t648 10)), (63, .int .i64 (wrap64 (97 + (Int.tmod t648 10)))), (64, .int .u8 ((wrap64 (97 + (Int.tmod t648 10))) % 256))]) (fun s_ w' => (w'.cell? ⟨gb620, 0, none⟩ = some (.slice Ao50 x621000_1.length co50) ∧ w'.cell? ⟨gb620, 1, none⟩ = some (.int .i64 x621001_1)) ∧ (Kd.S k51 51 w' w.heap.size (fun k_ => some k_ ≠ (.slice Ao59 t636.length co59 : Value).ownBlock ∧ some k_ ≠ (.slice Ao66 t642.length co66 : Value).ownBlock ∧ some k_ ≠ (.slice Ao50 x621000_1.length co50 : Value).ownBlock) (.slice Ao53 t630.length co53) t630) ∧ (Kd.S k51 51 w' w.heap.size (fun k_ => some k_ ≠ (.slice Ao53 t630.length co53 : Value).ownBlock ∧ some k_ ≠ (.slice Ao66 t642.length co66 : Value).ownBlock ∧ some k_ ≠ (.slice Ao50 x621000_1.length co50 : Value).ownBlock) (.slice Ao59 t636.length co59) t636) ∧ (Kd.S k51 51 w' w.heap.size (fun k_ => some k_ ≠ (.slice Ao53 t630.length co53 : Value).ownBlock ∧ some k_ ≠ (.slice Ao59 t636.length co59 : Value).ownBlock ∧ some k_ ≠ (.slice Ao50 x621000_1.length co50 : Value).ownBlock) (.slice Ao66 t642.length co66) t642) ∧ (Kd.S k51 51 w' w.heap.size (fun k_ => some k_ ≠ (.slice Ao53 t630.length co53 : Value).ownBlock ∧ some k_ ≠ (.slice Ao59 t636.length co59 : Value).ownBlock ∧ some k_ ≠ (.slice Ao66 t642.length co66 : Value).ownBlock) (.slice Ao50 x621000_1.length co50) x621000_1) ∧ (w'.heap[gb620]? = some (.cells #[.slice Ao50 x621000_1.length co50, .int .i64 x621001_1] 26 (0, 0))) ∧ (w'.heap[gb635]? = some (.cells #[.slice Ao53 t630.length co53, .int .i64 t633] 26 (0, 0))) ∧ (w'.heap[gb641]? = some (.cells #[.slice Ao59 t636.length co59, .int .i64 t639] 26 (0, 0))) ∧ (w'.heap[gb647]? = some (.cells #[.slice Ao66 t642.length co66, .int .i64 t645] 26 (0, 0))) ∧ (Below w.heap.size w w')) ?_ ?_
                  rotate_left
                  ·intro hJ2
                   refine join_ (σ := Nat) 13 (lb 16 8195) (fun s_ => [(14, .pointer (some ⟨s_, 0, none⟩))]) (fun s_ w' => (w'.cell? ⟨gb620, 0, none⟩ = some (.slice Ao50 x621000_1.length co50) ∧ w'.cell? ⟨gb620, 1, none⟩ = some (.int .i64 x621001_1)) ∧ (Kd.S k51 51 w' w.heap.size (fun k_ => some k_ ≠ (.slice Ao59 t636.length co59 : Value).ownBlock ∧ some k_ ≠ (.slice Ao66 t642.length co66 : Value).ownBlock ∧ some k_ ≠ (.slice Ao50 x621000_1.length co50 : Value).ownBlock) (.slice Ao53 t630.length co53) t630) ∧ (Kd.S k51 51 w' w.heap.size (fun k_ => some k_ ≠ (.slice Ao53 t630.length co53 : Value).ownBlock ∧ some k_ ≠ (.slice Ao66 t642.length co66 : Value).ownBlock ∧ some k_ ≠ (.slice Ao50 x621000_1.length co50 : Value).ownBlock) (.slice Ao59 t636.length co59) t636) ∧ (Kd.S k51 51 w' w.heap.size (fun k_ => some k_ ≠ (.slice Ao53 t630.length co53 : Value).ownBlock ∧ some k_ ≠ (.slice Ao59 t636.length co59 : Value).ownBlock ∧ some k_ ≠ (.slice Ao50 x621000_1.length co50 : Value).ownBlock) (.slice Ao66 t642.length co66) t642) ∧ (Kd.S k51 51 w' w.heap.size (fun k_ => some k_ ≠ (.slice Ao53 t630.length co53 : Value).ownBlock ∧ some k_ ≠ (.slice Ao59 t636.length co59 : Value).ownBlock ∧ some k_ ≠ (.slice Ao66 t642.length co66 : Value).ownBlock) (.slice Ao50 x621000_1.length co50) x621000_1) ∧ (w'.heap[gb620]? = some (.cells #[.slice Ao50 x621000_1.length co50, .int .i64 x621001_1] 26 (0, 0))) ∧ (w'.heap[gb635]? = some (.cells #[.slice Ao53 t630.length co53, .int .i64 t633] 26 (0, 0))) ∧ (w'.heap[gb641]? = some (.cells #[.slice Ao59 t636.length co59, .int .i64 t639] 26 (0, 0))) ∧ (w'.heap[gb647]? = some (.cells #[.slice Ao66 t642.length co66, .int .i64 t645] 26 (0, 0))) ∧ (w'.heap[s_]? = some (.cells #[.slice none 0 0, .int .i64 0] 26 (0, 0))) ∧ (w.heap.size ≤ s_) ∧ (w.heap.size ≤ s_) ∧ (gb620 ≠ s_) ∧ (s_ ≠ gb620) ∧ (gb635 ≠ s_) ∧ (s_ ≠ gb635) ∧ (gb641 ≠ s_) ∧ (s_ ≠ gb641) ∧ (gb647 ≠ s_) ∧ (s_ ≠ gb647) ∧ (Below w.heap.size w w')) ?_ ?_
                   rotate_left
                   ·intro hJ13
                    refine two_ (i := 2) (j := 13) (Ni := some 61) (Nj := some 14) (lb 16 7) (lb 16 8195) rfl rfl rfl rfl (two_of HT_.out (by kernel_rfl)) (by decide) (by decide) (fun K hK => ?_) (fun K hK => ?_)
                    ·skip
                     refine gr_ 61 Tryz.func20 (laws_at.calls _ _ l0 2 t648 _ (kC HR0) HC0.out A40.out) ?_
                     rintro e w' ⟨rfl, ⟨nd, rfl⟩⟩
                     refine ⟨_, rfl, ?_⟩
                     refine hk_ hK 61 oH (fun hHeld => ?_)
                     clear hK K
                     refine pu_ 3 62 HT_ ?_
                     refine pu_ 4 63 HT_ ?_
                     refine pu_ 5 64 HT_ ?_
                     exact norm_ (by first | (simp only [putAll, Act.put, List.setIfInBounds_toArray, List.set_cons_zero, List.set_cons_succ]; done) | (simp only [putAll, Act.put, List.setIfInBounds_toArray, List.set_cons_zero, List.set_cons_succ]; rfl)) (hJ2 () _ ⟨hHeld, (by (with_reducible repeat (first | apply Kd.S_alloc | apply Kd.S_drewN | apply Kd.S_drew)); exact Kd.S_mono HO632.out (fun _ hk => ⟨hk.2.1, ⟨hk.2.2, hk.1⟩⟩)), (by (with_reducible repeat (first | apply Kd.S_alloc | apply Kd.S_drewN | apply Kd.S_drew)); exact Kd.S_mono HO638.out (fun _ hk => ⟨hk.2.1, ⟨hk.2.2, hk.1⟩⟩)), (by (with_reducible repeat (first | apply Kd.S_alloc | apply Kd.S_drewN | apply Kd.S_drew)); exact Kd.S_mono HO644.out (fun _ hk => ⟨hk.2.1, ⟨hk.2.2, hk.1⟩⟩)), (nS0 HO_621000), (oF BK620), (oF BK635), (oF BK641), (oF BK647), oB⟩)
                    ·skip
                     refine box_step ?hg (N := 14) ?hd (cs := #[.slice none 0 0, .int .i64 0]) (t := 26) ?hr ?_; (case hd => rfl); (case hg => rfl); (case hr => first | (go_simp; done) | (go_simp; rfl))
                     intro gb657 hg w73 hbox hb
                     have BK657 := Aside0.mk (hbox)
                     have GW657 := gs_ hg
                     have GE657 := gs_ hg
                     have NB620_657 := nl_ hg BK620
                     have NB657_620 := nr_ hg BK620
                     have NB635_657 := nl_ hg BK635
                     have NB657_635 := nr_ hg BK635
                     have NB641_657 := nl_ hg BK641
                     have NB657_641 := nr_ hg BK641
                     have NB647_657 := nl_ hg BK647
                     have NB657_647 := nr_ hg BK647
                     replace HO_621000 := beS0 HO_621000 hb
                     replace HO632 := beS0 HO632 hb
                     replace HO638 := beS0 HO638 hb
                     replace HO644 := beS0 HO644 hb
                     replace BK620 := kb_ BK620 hb
                     replace BK635 := kb_ BK635 hb
                     replace BK641 := kb_ BK641 hb
                     replace BK647 := kb_ BK647 hb
                     replace HB := Aside0.mk (below_step oB hb)
                     clear hb hbox hg
                     refine hk_ hK 14 oH (fun hHeld => ?_)
                     clear hK K
                     exact norm_ (by first | (simp only [putAll, Act.put, List.setIfInBounds_toArray, List.set_cons_zero, List.set_cons_succ]; done) | (simp only [putAll, Act.put, List.setIfInBounds_toArray, List.set_cons_zero, List.set_cons_succ]; rfl)) (hJ13 (gb657) _ ⟨hHeld, (by (with_reducible repeat (first | apply Kd.S_alloc | apply Kd.S_drewN | apply Kd.S_drew)); exact Kd.S_mono HO632.out (fun _ hk => ⟨hk.2.1, ⟨hk.2.2, hk.1⟩⟩)), (by (with_reducible repeat (first | apply Kd.S_alloc | apply Kd.S_drewN | apply Kd.S_drew)); exact Kd.S_mono HO638.out (fun _ hk => ⟨hk.2.1, ⟨hk.2.2, hk.1⟩⟩)), (by (with_reducible repeat (first | apply Kd.S_alloc | apply Kd.S_drewN | apply Kd.S_drew)); exact Kd.S_mono HO644.out (fun _ hk => ⟨hk.2.1, ⟨hk.2.2, hk.1⟩⟩)), (nS0 HO_621000), (oF BK620), (oF BK635), (oF BK641), (oF BK647), (oF BK657), GW657.out, GE657.out, NB620_657.out, NB657_620.out, NB635_657.out, NB657_635.out, NB641_657.out, NB657_641.out, NB647_657.out, NB657_647.out, oB⟩)
                   ·skip
                    rintro gb657 w74 ⟨hS_, h0_, h1_, h2_, h3_, h4_, h5_, h6_, h7_, h8_, h9_, h10_, h11_, h12_, h13_, h14_, h15_, h16_, h17_, h18_, h19_⟩
                    have n0_ : Aside0 (Kd.S k51 51 w74 w.heap.size (fun k_ => some k_ ≠ (.slice Ao59 t636.length co59 : Value).ownBlock ∧ some k_ ≠ (.slice Ao66 t642.length co66 : Value).ownBlock ∧ some k_ ≠ (.slice Ao50 x621000_1.length co50 : Value).ownBlock) (.slice Ao53 t630.length co53) t630) := ⟨h0_⟩
                    have n1_ : Aside0 (Kd.S k51 51 w74 w.heap.size (fun k_ => some k_ ≠ (.slice Ao53 t630.length co53 : Value).ownBlock ∧ some k_ ≠ (.slice Ao66 t642.length co66 : Value).ownBlock ∧ some k_ ≠ (.slice Ao50 x621000_1.length co50 : Value).ownBlock) (.slice Ao59 t636.length co59) t636) := ⟨h1_⟩
                    have n2_ : Aside0 (Kd.S k51 51 w74 w.heap.size (fun k_ => some k_ ≠ (.slice Ao53 t630.length co53 : Value).ownBlock ∧ some k_ ≠ (.slice Ao59 t636.length co59 : Value).ownBlock ∧ some k_ ≠ (.slice Ao50 x621000_1.length co50 : Value).ownBlock) (.slice Ao66 t642.length co66) t642) := ⟨h2_⟩
                    have n3_ : Aside0 (Kd.S k51 51 w74 w.heap.size (fun k_ => some k_ ≠ (.slice Ao53 t630.length co53 : Value).ownBlock ∧ some k_ ≠ (.slice Ao59 t636.length co59 : Value).ownBlock ∧ some k_ ≠ (.slice Ao66 t642.length co66 : Value).ownBlock) (.slice Ao50 x621000_1.length co50) x621000_1) := ⟨h3_⟩
                    have n4_ : Aside0 (w74.heap[gb620]? = some (.cells #[.slice Ao50 x621000_1.length co50, .int .i64 x621001_1] 26 (0, 0))) := ⟨h4_⟩
                    have n5_ : Aside0 (w74.heap[gb635]? = some (.cells #[.slice Ao53 t630.length co53, .int .i64 t633] 26 (0, 0))) := ⟨h5_⟩
                    have n6_ : Aside0 (w74.heap[gb641]? = some (.cells #[.slice Ao59 t636.length co59, .int .i64 t639] 26 (0, 0))) := ⟨h6_⟩
                    have n7_ : Aside0 (w74.heap[gb647]? = some (.cells #[.slice Ao66 t642.length co66, .int .i64 t645] 26 (0, 0))) := ⟨h7_⟩
                    have n8_ : Aside0 (w74.heap[gb657]? = some (.cells #[.slice none 0 0, .int .i64 0] 26 (0, 0))) := ⟨h8_⟩
                    have n9_ : Aside0 (w.heap.size ≤ gb657) := ⟨h9_⟩
                    have n10_ : Aside0 (w.heap.size ≤ gb657) := ⟨h10_⟩
                    have n11_ : Aside0 (gb620 ≠ gb657) := ⟨h11_⟩
                    have n12_ : Aside0 (gb657 ≠ gb620) := ⟨h12_⟩
                    have n13_ : Aside0 (gb635 ≠ gb657) := ⟨h13_⟩
                    have n14_ : Aside0 (gb657 ≠ gb635) := ⟨h14_⟩
                    have n15_ : Aside0 (gb641 ≠ gb657) := ⟨h15_⟩
                    have n16_ : Aside0 (gb657 ≠ gb641) := ⟨h16_⟩
                    have n17_ : Aside0 (gb647 ≠ gb657) := ⟨h17_⟩
                    have n18_ : Aside0 (gb657 ≠ gb647) := ⟨h18_⟩
                    have n19_ : Aside0 (Below w.heap.size w w74) := ⟨h19_⟩
                    clear HO_621000
                    clear HO632
                    clear HO638
                    clear HO644
                    clear BK620
                    clear BK635
                    clear BK641
                    clear BK647
                    clear HB
                    clear h0_ h1_ h2_ h3_ h4_ h5_ h6_ h7_ h8_ h9_ h10_ h11_ h12_ h13_ h14_ h15_ h16_ h17_ h18_ h19_
                    have HO632 := n0_
                    have HO638 := n1_
                    have HO644 := n2_
                    have HO_621000 := n3_
                    have BK620 := n4_
                    have BK635 := n5_
                    have BK641 := n6_
                    have BK647 := n7_
                    have BK657 := n8_
                    have GW657 := n9_
                    have GE657 := n10_
                    have NB620_657 := n11_
                    have NB657_620 := n12_
                    have NB635_657 := n13_
                    have NB657_635 := n14_
                    have NB641_657 := n15_
                    have NB657_641 := n16_
                    have NB647_657 := n17_
                    have NB657_647 := n18_
                    have HB := n19_
                    clear n0_ n1_ n2_ n3_ n4_ n5_ n6_ n7_ n8_ n9_ n10_ n11_ n12_ n13_ n14_ n15_ n16_ n17_ n18_ n19_
                    have hHeld : w74.cell? ⟨gb620, 0, none⟩ = some (.slice Ao50 x621000_1.length co50) ∧ w74.cell? ⟨gb620, 1, none⟩ = some (.int .i64 x621001_1) := hS_
                    refine norm_ (a' := ?_) ?_ ?_
                    rotate_left
                    ·simp only [putAll, Act.put, List.setIfInBounds_toArray, List.set_cons_zero, List.set_cons_succ]
                     rfl
                    refine on_ 2 61 HT_ (fun K hK => ?_)
                    refine gr_ 61 Tryz.func20 (laws_at.calls _ _ l0 2 t648 _ (kC HR0) HC0.out A40.out) ?_
                    rintro e w' ⟨rfl, ⟨nd, rfl⟩⟩
                    refine ⟨_, rfl, ?_⟩
                    refine hk_ hK 61 oH (fun hHeld => ?_)
                    clear hK K
                    refine pu_ 3 62 HT_ ?_
                    refine pu_ 4 63 HT_ ?_
                    refine pu_ 5 64 HT_ ?_
                    exact norm_ (by first | (simp only [putAll, Act.put, List.setIfInBounds_toArray, List.set_cons_zero, List.set_cons_succ]; done) | (simp only [putAll, Act.put, List.setIfInBounds_toArray, List.set_cons_zero, List.set_cons_succ]; rfl)) (hJ2_13 (gb657) _ ⟨hHeld, (nS0 HO632), (nS0 HO638), (nS0 HO644), (nS0 HO_621000), (oF BK620), (oF BK635), (oF BK641), (oF BK647), (oF BK657), GW657.out, GE657.out, NB620_657.out, NB657_620.out, NB635_657.out, NB657_635.out, NB641_657.out, NB657_641.out, NB647_657.out, NB657_647.out, oB⟩)
                  ·skip
                   rintro _ w73 ⟨hS_, h0_, h1_, h2_, h3_, h4_, h5_, h6_, h7_, h8_⟩
                   have n0_ : Aside0 (Kd.S k51 51 w73 w.heap.size (fun k_ => some k_ ≠ (.slice Ao59 t636.length co59 : Value).ownBlock ∧ some k_ ≠ (.slice Ao66 t642.length co66 : Value).ownBlock ∧ some k_ ≠ (.slice Ao50 x621000_1.length co50 : Value).ownBlock) (.slice Ao53 t630.length co53) t630) := ⟨h0_⟩
                   have n1_ : Aside0 (Kd.S k51 51 w73 w.heap.size (fun k_ => some k_ ≠ (.slice Ao53 t630.length co53 : Value).ownBlock ∧ some k_ ≠ (.slice Ao66 t642.length co66 : Value).ownBlock ∧ some k_ ≠ (.slice Ao50 x621000_1.length co50 : Value).ownBlock) (.slice Ao59 t636.length co59) t636) := ⟨h1_⟩
                   have n2_ : Aside0 (Kd.S k51 51 w73 w.heap.size (fun k_ => some k_ ≠ (.slice Ao53 t630.length co53 : Value).ownBlock ∧ some k_ ≠ (.slice Ao59 t636.length co59 : Value).ownBlock ∧ some k_ ≠ (.slice Ao50 x621000_1.length co50 : Value).ownBlock) (.slice Ao66 t642.length co66) t642) := ⟨h2_⟩
                   have n3_ : Aside0 (Kd.S k51 51 w73 w.heap.size (fun k_ => some k_ ≠ (.slice Ao53 t630.length co53 : Value).ownBlock ∧ some k_ ≠ (.slice Ao59 t636.length co59 : Value).ownBlock ∧ some k_ ≠ (.slice Ao66 t642.length co66 : Value).ownBlock) (.slice Ao50 x621000_1.length co50) x621000_1) := ⟨h3_⟩
                   have n4_ : Aside0 (w73.heap[gb620]? = some (.cells #[.slice Ao50 x621000_1.length co50, .int .i64 x621001_1] 26 (0, 0))) := ⟨h4_⟩
                   have n5_ : Aside0 (w73.heap[gb635]? = some (.cells #[.slice Ao53 t630.length co53, .int .i64 t633] 26 (0, 0))) := ⟨h5_⟩
                   have n6_ : Aside0 (w73.heap[gb641]? = some (.cells #[.slice Ao59 t636.length co59, .int .i64 t639] 26 (0, 0))) := ⟨h6_⟩
                   have n7_ : Aside0 (w73.heap[gb647]? = some (.cells #[.slice Ao66 t642.length co66, .int .i64 t645] 26 (0, 0))) := ⟨h7_⟩
                   have n8_ : Aside0 (Below w.heap.size w w73) := ⟨h8_⟩
                   clear HO_621000
                   clear HO632
                   clear HO638
                   clear HO644
                   clear BK620
                   clear BK635
                   clear BK641
                   clear BK647
                   clear HB
                   clear h0_ h1_ h2_ h3_ h4_ h5_ h6_ h7_ h8_
                   have HO632 := n0_
                   have HO638 := n1_
                   have HO644 := n2_
                   have HO_621000 := n3_
                   have BK620 := n4_
                   have BK635 := n5_
                   have BK641 := n6_
                   have BK647 := n7_
                   have HB := n8_
                   clear n0_ n1_ n2_ n3_ n4_ n5_ n6_ n7_ n8_
                   have hHeld : w73.cell? ⟨gb620, 0, none⟩ = some (.slice Ao50 x621000_1.length co50) ∧ w73.cell? ⟨gb620, 1, none⟩ = some (.int .i64 x621001_1) := hS_
                   refine norm_ (a' := ?_) ?_ ?_
                   rotate_left
                   ·simp only [putAll, Act.put, List.setIfInBounds_toArray, List.set_cons_zero, List.set_cons_succ]
                    rfl
                   refine two_ (i := 6) (j := 13) (Ni := some 65) (Nj := some 14) (lb 16 127) (lb 16 8255) rfl rfl rfl rfl (two_of HT_.out (by kernel_rfl)) (by decide) (by decide) (fun K hK => ?_) (fun K hK => ?_)
                   ·skip
                    refine Kd.R_lit_step (Kd.int .u8) _ 5 ?hg (N := 65) ?hd (xs := ([(wrap64 (97 + (Int.tmod t648 10))) % 256] : List Int)) (inner := [.int .u8 ((wrap64 (97 + (Int.tmod t648 10))) % 256)]) (ok := fun _ => True) (okp := fun _ => True) ?hr ?hp (fun _ hk => hk) trivial (Below.refl _ _) (Nat.le_refl _) (by simp) ?_; (case hd => rfl); (case hg => rfl); (case hr => first | (go_simp; done) | (go_simp; rfl)); (case hp => exact (Reps.one (show Kd.M (Kd.int .u8) _ _ _ ((wrap64 (97 + (Int.tmod t648 10))) % 256) [.int .u8 ((wrap64 (97 + (Int.tmod t648 10))) % 256)] from rfl) (Reps.none _ _)))
                    intro v650 w74 ho75 hb hg_ hnew_
                    clear hg_ hnew_
                    (first | rw [← Ny649.out] at ho75 | (simp only [Int.reduceToNat] at ho75; rw [← Ny649.out] at ho75))
                    have HO651 := Aside0.mk (Kd.R_lower ho75 (below_size oB))
                    replace HO_621000 := elS0 HO_621000 (Kd.R_base ho75) hb
                    replace HO632 := elS0 HO632 (Kd.R_base ho75) hb
                    replace HO638 := elS0 HO638 (Kd.R_base ho75) hb
                    replace HO644 := elS0 HO644 (Kd.R_base ho75) hb
                    replace BK620 := kb_ BK620 hb
                    replace BK635 := kb_ BK635 hb
                    replace BK641 := kb_ BK641 hb
                    replace BK647 := kb_ BK647 hb
                    replace HB := Aside0.mk (below_step oB hb)
                    clear hb ho75
                    refine hk_ hK 65 oH (fun hHeld => ?_)
                    clear hK K
                    exact norm_ (by first | (simp only [putAll, Act.put, List.setIfInBounds_toArray, List.set_cons_zero, List.set_cons_succ]; done) | (simp only [putAll, Act.put, List.setIfInBounds_toArray, List.set_cons_zero, List.set_cons_succ]; rfl)) (hJ2_6 (v650) _ ⟨hHeld, (by (with_reducible repeat (first | apply Kd.S_alloc | apply Kd.S_drewN | apply Kd.S_drew)); exact Kd.S_mono HO632.out (fun _ hk => ⟨hk.1.1, ⟨hk.1.2.1, ⟨hk.2, hk.1.2.2⟩⟩⟩)), (by (with_reducible repeat (first | apply Kd.S_alloc | apply Kd.S_drewN | apply Kd.S_drew)); exact Kd.S_mono HO638.out (fun _ hk => ⟨hk.1.1, ⟨hk.1.2.1, ⟨hk.2, hk.1.2.2⟩⟩⟩)), (by (with_reducible repeat (first | apply Kd.S_alloc | apply Kd.S_drewN | apply Kd.S_drew)); exact Kd.S_mono HO644.out (fun _ hk => ⟨hk.1.1, ⟨hk.1.2.1, ⟨hk.2, hk.1.2.2⟩⟩⟩)), (oR HO651), (by (with_reducible repeat (first | apply Kd.S_alloc | apply Kd.S_drewN | apply Kd.S_drew)); exact Kd.S_mono HO_621000.out (fun _ hk => ⟨hk.1.1, ⟨hk.1.2.1, ⟨hk.1.2.2, hk.2⟩⟩⟩)), (oF BK620), (oF BK635), (oF BK641), (oF BK647), oB⟩)
                   ·skip
                    refine box_step ?hg (N := 14) ?hd (cs := #[.slice none 0 0, .int .i64 0]) (t := 26) ?hr ?_; (case hd => rfl); (case hg => rfl); (case hr => first | (go_simp; done) | (go_simp; rfl))
                    intro gb657 hg w74 hbox hb
                    have BK657 := Aside0.mk (hbox)
                    have GW657 := gs_ hg
                    have GE657 := gs_ hg
                    have NB620_657 := nl_ hg BK620
                    have NB657_620 := nr_ hg BK620
                    have NB635_657 := nl_ hg BK635
                    have NB657_635 := nr_ hg BK635
                    have NB641_657 := nl_ hg BK641
                    have NB657_641 := nr_ hg BK641
                    have NB647_657 := nl_ hg BK647
                    have NB657_647 := nr_ hg BK647
                    replace HO_621000 := beS0 HO_621000 hb
                    replace HO632 := beS0 HO632 hb
                    replace HO638 := beS0 HO638 hb
                    replace HO644 := beS0 HO644 hb
                    replace BK620 := kb_ BK620 hb
                    replace BK635 := kb_ BK635 hb
                    replace BK641 := kb_ BK641 hb
                    replace BK647 := kb_ BK647 hb
                    replace HB := Aside0.mk (below_step oB hb)
                    clear hb hbox hg
                    refine hk_ hK 14 oH (fun hHeld => ?_)
                    clear hK K
                    exact norm_ (by first | (simp only [putAll, Act.put, List.setIfInBounds_toArray, List.set_cons_zero, List.set_cons_succ]; done) | (simp only [putAll, Act.put, List.setIfInBounds_toArray, List.set_cons_zero, List.set_cons_succ]; rfl)) (hJ2_13 (gb657) _ ⟨hHeld, (nS0 HO632), (nS0 HO638), (nS0 HO644), (nS0 HO_621000), (oF BK620), (oF BK635), (oF BK641), (oF BK647), (oF BK657), GW657.out, GE657.out, NB620_657.out, NB657_620.out, NB635_657.out, NB657_635.out, NB641_657.out, NB657_641.out, NB647_657.out, NB657_647.out, oB⟩)
                 ·skip
                  rintro gb657 w74 ⟨hS_, h0_, h1_, h2_, h3_, h4_, h5_, h6_, h7_, h8_, h9_, h10_, h11_, h12_, h13_, h14_, h15_, h16_, h17_, h18_, h19_⟩
                  have n0_ : Aside0 (Kd.S k51 51 w74 w.heap.size (fun k_ => some k_ ≠ (.slice Ao59 t636.length co59 : Value).ownBlock ∧ some k_ ≠ (.slice Ao66 t642.length co66 : Value).ownBlock ∧ some k_ ≠ (.slice Ao50 x621000_1.length co50 : Value).ownBlock) (.slice Ao53 t630.length co53) t630) := ⟨h0_⟩
                  have n1_ : Aside0 (Kd.S k51 51 w74 w.heap.size (fun k_ => some k_ ≠ (.slice Ao53 t630.length co53 : Value).ownBlock ∧ some k_ ≠ (.slice Ao66 t642.length co66 : Value).ownBlock ∧ some k_ ≠ (.slice Ao50 x621000_1.length co50 : Value).ownBlock) (.slice Ao59 t636.length co59) t636) := ⟨h1_⟩
                  have n2_ : Aside0 (Kd.S k51 51 w74 w.heap.size (fun k_ => some k_ ≠ (.slice Ao53 t630.length co53 : Value).ownBlock ∧ some k_ ≠ (.slice Ao59 t636.length co59 : Value).ownBlock ∧ some k_ ≠ (.slice Ao50 x621000_1.length co50 : Value).ownBlock) (.slice Ao66 t642.length co66) t642) := ⟨h2_⟩
                  have n3_ : Aside0 (Kd.S k51 51 w74 w.heap.size (fun k_ => some k_ ≠ (.slice Ao53 t630.length co53 : Value).ownBlock ∧ some k_ ≠ (.slice Ao59 t636.length co59 : Value).ownBlock ∧ some k_ ≠ (.slice Ao66 t642.length co66 : Value).ownBlock) (.slice Ao50 x621000_1.length co50) x621000_1) := ⟨h3_⟩
                  have n4_ : Aside0 (w74.heap[gb620]? = some (.cells #[.slice Ao50 x621000_1.length co50, .int .i64 x621001_1] 26 (0, 0))) := ⟨h4_⟩
                  have n5_ : Aside0 (w74.heap[gb635]? = some (.cells #[.slice Ao53 t630.length co53, .int .i64 t633] 26 (0, 0))) := ⟨h5_⟩
                  have n6_ : Aside0 (w74.heap[gb641]? = some (.cells #[.slice Ao59 t636.length co59, .int .i64 t639] 26 (0, 0))) := ⟨h6_⟩
                  have n7_ : Aside0 (w74.heap[gb647]? = some (.cells #[.slice Ao66 t642.length co66, .int .i64 t645] 26 (0, 0))) := ⟨h7_⟩
                  have n8_ : Aside0 (w74.heap[gb657]? = some (.cells #[.slice none 0 0, .int .i64 0] 26 (0, 0))) := ⟨h8_⟩
                  have n9_ : Aside0 (w.heap.size ≤ gb657) := ⟨h9_⟩
                  have n10_ : Aside0 (w.heap.size ≤ gb657) := ⟨h10_⟩
                  have n11_ : Aside0 (gb620 ≠ gb657) := ⟨h11_⟩
                  have n12_ : Aside0 (gb657 ≠ gb620) := ⟨h12_⟩
                  have n13_ : Aside0 (gb635 ≠ gb657) := ⟨h13_⟩
                  have n14_ : Aside0 (gb657 ≠ gb635) := ⟨h14_⟩
                  have n15_ : Aside0 (gb641 ≠ gb657) := ⟨h15_⟩
                  have n16_ : Aside0 (gb657 ≠ gb641) := ⟨h16_⟩
                  have n17_ : Aside0 (gb647 ≠ gb657) := ⟨h17_⟩
                  have n18_ : Aside0 (gb657 ≠ gb647) := ⟨h18_⟩
                  have n19_ : Aside0 (Below w.heap.size w w74) := ⟨h19_⟩
                  clear HO_621000
                  clear HO632
                  clear HO638
                  clear HO644
                  clear BK620
                  clear BK635
                  clear BK641
                  clear BK647
                  clear HB
                  clear h0_ h1_ h2_ h3_ h4_ h5_ h6_ h7_ h8_ h9_ h10_ h11_ h12_ h13_ h14_ h15_ h16_ h17_ h18_ h19_
                  have HO632 := n0_
                  have HO638 := n1_
                  have HO644 := n2_
                  have HO_621000 := n3_
                  have BK620 := n4_
                  have BK635 := n5_
                  have BK641 := n6_
                  have BK647 := n7_
                  have BK657 := n8_
                  have GW657 := n9_
                  have GE657 := n10_
                  have NB620_657 := n11_
                  have NB657_620 := n12_
                  have NB635_657 := n13_
                  have NB657_635 := n14_
                  have NB641_657 := n15_
                  have NB657_641 := n16_
                  have NB647_657 := n17_
                  have NB657_647 := n18_
                  have HB := n19_
                  clear n0_ n1_ n2_ n3_ n4_ n5_ n6_ n7_ n8_ n9_ n10_ n11_ n12_ n13_ n14_ n15_ n16_ n17_ n18_ n19_
                  have hHeld : w74.cell? ⟨gb620, 0, none⟩ = some (.slice Ao50 x621000_1.length co50) ∧ w74.cell? ⟨gb620, 1, none⟩ = some (.int .i64 x621001_1) := hS_
                  refine norm_ (a' := ?_) ?_ ?_
                  rotate_left
                  ·simp only [putAll, Act.put, List.setIfInBounds_toArray, List.set_cons_zero, List.set_cons_succ]
                   rfl
                  refine on_ 6 65 HT_ (fun K hK => ?_)
                  refine Kd.R_lit_step (Kd.int .u8) _ 5 ?hg (N := 65) ?hd (xs := ([(wrap64 (97 + (Int.tmod t648 10))) % 256] : List Int)) (inner := [.int .u8 ((wrap64 (97 + (Int.tmod t648 10))) % 256)]) (ok := fun _ => True) (okp := fun _ => True) ?hr ?hp (fun _ hk => hk) trivial (Below.refl _ _) (Nat.le_refl _) (by simp) ?_; (case hd => rfl); (case hg => rfl); (case hr => first | (go_simp; done) | (go_simp; rfl)); (case hp => exact (Reps.one (show Kd.M (Kd.int .u8) _ _ _ ((wrap64 (97 + (Int.tmod t648 10))) % 256) [.int .u8 ((wrap64 (97 + (Int.tmod t648 10))) % 256)] from rfl) (Reps.none _ _)))
                  intro v650 w75 ho76 hb hg_ hnew_
                  clear hg_ hnew_
                  (first | rw [← Ny649.out] at ho76 | (simp only [Int.reduceToNat] at ho76; rw [← Ny649.out] at ho76))
                  have HO651 := Aside0.mk (Kd.R_lower ho76 (below_size oB))
                  replace HO_621000 := elS0 HO_621000 (Kd.R_base ho76) hb
                  replace HO632 := elS0 HO632 (Kd.R_base ho76) hb
                  replace HO638 := elS0 HO638 (Kd.R_base ho76) hb
                  replace HO644 := elS0 HO644 (Kd.R_base ho76) hb
                  replace BK620 := kb_ BK620 hb
                  replace BK635 := kb_ BK635 hb
                  replace BK641 := kb_ BK641 hb
                  replace BK647 := kb_ BK647 hb
                  replace BK657 := kb_ BK657 hb
                  replace HB := Aside0.mk (below_step oB hb)
                  clear hb ho76
                  refine hk_ hK 65 oH (fun hHeld => ?_)
                  clear hK K
                  exact norm_ (by first | (simp only [putAll, Act.put, List.setIfInBounds_toArray, List.set_cons_zero, List.set_cons_succ]; done) | (simp only [putAll, Act.put, List.setIfInBounds_toArray, List.set_cons_zero, List.set_cons_succ]; rfl)) (hJ2_6_13 (v650, gb657) _ ⟨hHeld, (by (with_reducible repeat (first | apply Kd.S_alloc | apply Kd.S_drewN | apply Kd.S_drew)); exact Kd.S_mono HO632.out (fun _ hk => ⟨hk.1.1, ⟨hk.1.2.1, ⟨hk.2, hk.1.2.2⟩⟩⟩)), (by (with_reducible repeat (first | apply Kd.S_alloc | apply Kd.S_drewN | apply Kd.S_drew)); exact Kd.S_mono HO638.out (fun _ hk => ⟨hk.1.1, ⟨hk.1.2.1, ⟨hk.2, hk.1.2.2⟩⟩⟩)), (by (with_reducible repeat (first | apply Kd.S_alloc | apply Kd.S_drewN | apply Kd.S_drew)); exact Kd.S_mono HO644.out (fun _ hk => ⟨hk.1.1, ⟨hk.1.2.1, ⟨hk.2, hk.1.2.2⟩⟩⟩)), (oR HO651), (by (with_reducible repeat (first | apply Kd.S_alloc | apply Kd.S_drewN | apply Kd.S_drew)); exact Kd.S_mono HO_621000.out (fun _ hk => ⟨hk.1.1, ⟨hk.1.2.1, ⟨hk.1.2.2, hk.2⟩⟩⟩)), (oF BK620), (oF BK635), (oF BK641), (oF BK647), (oF BK657), GW657.out, GE657.out, NB620_657.out, NB657_620.out, NB635_657.out, NB657_635.out, NB641_657.out, NB657_641.out, NB647_657.out, NB657_647.out, oB⟩)
                ·skip
                 rintro v650 w75 ⟨hS_, h0_, h1_, h2_, h3_, h4_, h5_, h6_, h7_, h8_, h9_⟩
                 have n0_ : Aside0 (Kd.S k51 51 w75 w.heap.size (fun k_ => some k_ ≠ (.slice Ao59 t636.length co59 : Value).ownBlock ∧ some k_ ≠ (.slice Ao66 t642.length co66 : Value).ownBlock ∧ some k_ ≠ (v650 : Value).ownBlock ∧ some k_ ≠ (.slice Ao50 x621000_1.length co50 : Value).ownBlock) (.slice Ao53 t630.length co53) t630) := ⟨h0_⟩
                 have n1_ : Aside0 (Kd.S k51 51 w75 w.heap.size (fun k_ => some k_ ≠ (.slice Ao53 t630.length co53 : Value).ownBlock ∧ some k_ ≠ (.slice Ao66 t642.length co66 : Value).ownBlock ∧ some k_ ≠ (v650 : Value).ownBlock ∧ some k_ ≠ (.slice Ao50 x621000_1.length co50 : Value).ownBlock) (.slice Ao59 t636.length co59) t636) := ⟨h1_⟩
                 have n2_ : Aside0 (Kd.S k51 51 w75 w.heap.size (fun k_ => some k_ ≠ (.slice Ao53 t630.length co53 : Value).ownBlock ∧ some k_ ≠ (.slice Ao59 t636.length co59 : Value).ownBlock ∧ some k_ ≠ (v650 : Value).ownBlock ∧ some k_ ≠ (.slice Ao50 x621000_1.length co50 : Value).ownBlock) (.slice Ao66 t642.length co66) t642) := ⟨h2_⟩
                 have n3_ : Aside0 (Kd.R (Kd.int .u8) 5 w75 w.heap.size (fun _ => True) v650 y649) := ⟨h3_⟩
                 have n4_ : Aside0 (Kd.S k51 51 w75 w.heap.size (fun k_ => some k_ ≠ (.slice Ao53 t630.length co53 : Value).ownBlock ∧ some k_ ≠ (.slice Ao59 t636.length co59 : Value).ownBlock ∧ some k_ ≠ (.slice Ao66 t642.length co66 : Value).ownBlock ∧ some k_ ≠ (v650 : Value).ownBlock) (.slice Ao50 x621000_1.length co50) x621000_1) := ⟨h4_⟩
                 have n5_ : Aside0 (w75.heap[gb620]? = some (.cells #[.slice Ao50 x621000_1.length co50, .int .i64 x621001_1] 26 (0, 0))) := ⟨h5_⟩
                 have n6_ : Aside0 (w75.heap[gb635]? = some (.cells #[.slice Ao53 t630.length co53, .int .i64 t633] 26 (0, 0))) := ⟨h6_⟩
                 have n7_ : Aside0 (w75.heap[gb641]? = some (.cells #[.slice Ao59 t636.length co59, .int .i64 t639] 26 (0, 0))) := ⟨h7_⟩
                 have n8_ : Aside0 (w75.heap[gb647]? = some (.cells #[.slice Ao66 t642.length co66, .int .i64 t645] 26 (0, 0))) := ⟨h8_⟩
                 have n9_ : Aside0 (Below w.heap.size w w75) := ⟨h9_⟩
                 clear HO_621000
                 clear HO632
                 clear HO638
                 clear HO644
                 clear BK620
                 clear BK635
                 clear BK641
                 clear BK647
                 clear HB
                 clear h0_ h1_ h2_ h3_ h4_ h5_ h6_ h7_ h8_ h9_
                 have HO632 := n0_
                 have HO638 := n1_
                 have HO644 := n2_
                 have HO651 := n3_
                 have HO_621000 := n4_
                 have BK620 := n5_
                 have BK635 := n6_
                 have BK641 := n7_
                 have BK647 := n8_
                 have HB := n9_
                 clear n0_ n1_ n2_ n3_ n4_ n5_ n6_ n7_ n8_ n9_
                 have hHeld : w75.cell? ⟨gb620, 0, none⟩ = some (.slice Ao50 x621000_1.length co50) ∧ w75.cell? ⟨gb620, 1, none⟩ = some (.int .i64 x621001_1) := hS_
                 refine norm_ (a' := ?_) ?_ ?_
                 rotate_left
                 ·simp only [putAll, Act.put, List.setIfInBounds_toArray, List.set_cons_zero, List.set_cons_succ]
                  rfl
                 refine two_ (i := 7) (j := 13) (Ni := some 66) (Nj := some 14) (lb 16 255) (lb 16 8319) rfl rfl rfl rfl (two_of HT_.out (by kernel_rfl)) (by decide) (by decide) (fun K hK => ?_) (fun K hK => ?_)
                 ·skip
                  have hcv76 := own_string (P := Tryz.prog) Tryz.underlying22 Tryz.underlying5 Tryz.underlying9 (Kd.own_of_R HO651.out)
                  refine value_ (w1 := ?_) (v := ?_) (by rfl) rfl ?_ ?_
                  rotate_left 2
                  ·go_simp
                   constructor
                   ·rfl
                   ·rfl
                  clear hcv76
                  refine hk_ hK 66 oH (fun hHeld => ?_)
                  clear hK K
                  refine pu_ 8 67 HT_ ?_
                  exact norm_ (by first | (simp only [putAll, Act.put, List.setIfInBounds_toArray, List.set_cons_zero, List.set_cons_succ]; done) | (simp only [putAll, Act.put, List.setIfInBounds_toArray, List.set_cons_zero, List.set_cons_succ]; rfl)) (hJ2_6_7 (v650) _ ⟨hHeld, (nS0 HO632), (nS0 HO638), (nS0 HO644), (oR HO651), (nS0 HO_621000), (oF BK620), (oF BK635), (oF BK641), (oF BK647), oB⟩)
                 ·skip
                  refine box_step ?hg (N := 14) ?hd (cs := #[.slice none 0 0, .int .i64 0]) (t := 26) ?hr ?_; (case hd => rfl); (case hg => rfl); (case hr => first | (go_simp; done) | (go_simp; rfl))
                  intro gb657 hg w76 hbox hb
                  have BK657 := Aside0.mk (hbox)
                  have GW657 := gs_ hg
                  have GE657 := gs_ hg
                  have NB620_657 := nl_ hg BK620
                  have NB657_620 := nr_ hg BK620
                  have NB635_657 := nl_ hg BK635
                  have NB657_635 := nr_ hg BK635
                  have NB641_657 := nl_ hg BK641
                  have NB657_641 := nr_ hg BK641
                  have NB647_657 := nl_ hg BK647
                  have NB657_647 := nr_ hg BK647
                  replace HO_621000 := beS0 HO_621000 hb
                  replace HO632 := beS0 HO632 hb
                  replace HO638 := beS0 HO638 hb
                  replace HO644 := beS0 HO644 hb
                  replace HO651 := kr_ HO651 hb
                  replace BK620 := kb_ BK620 hb
                  replace BK635 := kb_ BK635 hb
                  replace BK641 := kb_ BK641 hb
                  replace BK647 := kb_ BK647 hb
                  replace HB := Aside0.mk (below_step oB hb)
                  clear hb hbox hg
                  refine hk_ hK 14 oH (fun hHeld => ?_)
                  clear hK K
                  exact norm_ (by first | (simp only [putAll, Act.put, List.setIfInBounds_toArray, List.set_cons_zero, List.set_cons_succ]; done) | (simp only [putAll, Act.put, List.setIfInBounds_toArray, List.set_cons_zero, List.set_cons_succ]; rfl)) (hJ2_6_13 (v650, gb657) _ ⟨hHeld, (nS0 HO632), (nS0 HO638), (nS0 HO644), (oR HO651), (nS0 HO_621000), (oF BK620), (oF BK635), (oF BK641), (oF BK647), (oF BK657), GW657.out, GE657.out, NB620_657.out, NB657_620.out, NB635_657.out, NB657_635.out, NB641_657.out, NB657_641.out, NB647_657.out, NB657_647.out, oB⟩)
               ·skip
                rintro ⟨v650, gb657⟩ w76 ⟨hS_, h0_, h1_, h2_, h3_, h4_, h5_, h6_, h7_, h8_, h9_, h10_, h11_, h12_, h13_, h14_, h15_, h16_, h17_, h18_, h19_, h20_⟩
                have n0_ : Aside0 (Kd.S k51 51 w76 w.heap.size (fun k_ => some k_ ≠ (.slice Ao59 t636.length co59 : Value).ownBlock ∧ some k_ ≠ (.slice Ao66 t642.length co66 : Value).ownBlock ∧ some k_ ≠ (v650 : Value).ownBlock ∧ some k_ ≠ (.slice Ao50 x621000_1.length co50 : Value).ownBlock) (.slice Ao53 t630.length co53) t630) := ⟨h0_⟩
                have n1_ : Aside0 (Kd.S k51 51 w76 w.heap.size (fun k_ => some k_ ≠ (.slice Ao53 t630.length co53 : Value).ownBlock ∧ some k_ ≠ (.slice Ao66 t642.length co66 : Value).ownBlock ∧ some k_ ≠ (v650 : Value).ownBlock ∧ some k_ ≠ (.slice Ao50 x621000_1.length co50 : Value).ownBlock) (.slice Ao59 t636.length co59) t636) := ⟨h1_⟩
                have n2_ : Aside0 (Kd.S k51 51 w76 w.heap.size (fun k_ => some k_ ≠ (.slice Ao53 t630.length co53 : Value).ownBlock ∧ some k_ ≠ (.slice Ao59 t636.length co59 : Value).ownBlock ∧ some k_ ≠ (v650 : Value).ownBlock ∧ some k_ ≠ (.slice Ao50 x621000_1.length co50 : Value).ownBlock) (.slice Ao66 t642.length co66) t642) := ⟨h2_⟩
                have n3_ : Aside0 (Kd.R (Kd.int .u8) 5 w76 w.heap.size (fun _ => True) v650 y649) := ⟨h3_⟩
                have n4_ : Aside0 (Kd.S k51 51 w76 w.heap.size (fun k_ => some k_ ≠ (.slice Ao53 t630.length co53 : Value).ownBlock ∧ some k_ ≠ (.slice Ao59 t636.length co59 : Value).ownBlock ∧ some k_ ≠ (.slice Ao66 t642.length co66 : Value).ownBlock ∧ some k_ ≠ (v650 : Value).ownBlock) (.slice Ao50 x621000_1.length co50) x621000_1) := ⟨h4_⟩
                have n5_ : Aside0 (w76.heap[gb620]? = some (.cells #[.slice Ao50 x621000_1.length co50, .int .i64 x621001_1] 26 (0, 0))) := ⟨h5_⟩
                have n6_ : Aside0 (w76.heap[gb635]? = some (.cells #[.slice Ao53 t630.length co53, .int .i64 t633] 26 (0, 0))) := ⟨h6_⟩
                have n7_ : Aside0 (w76.heap[gb641]? = some (.cells #[.slice Ao59 t636.length co59, .int .i64 t639] 26 (0, 0))) := ⟨h7_⟩
                have n8_ : Aside0 (w76.heap[gb647]? = some (.cells #[.slice Ao66 t642.length co66, .int .i64 t645] 26 (0, 0))) := ⟨h8_⟩
                have n9_ : Aside0 (w76.heap[gb657]? = some (.cells #[.slice none 0 0, .int .i64 0] 26 (0, 0))) := ⟨h9_⟩
                have n10_ : Aside0 (w.heap.size ≤ gb657) := ⟨h10_⟩
                have n11_ : Aside0 (w.heap.size ≤ gb657) := ⟨h11_⟩
                have n12_ : Aside0 (gb620 ≠ gb657) := ⟨h12_⟩
                have n13_ : Aside0 (gb657 ≠ gb620) := ⟨h13_⟩
                have n14_ : Aside0 (gb635 ≠ gb657) := ⟨h14_⟩
                have n15_ : Aside0 (gb657 ≠ gb635) := ⟨h15_⟩
                have n16_ : Aside0 (gb641 ≠ gb657) := ⟨h16_⟩
                have n17_ : Aside0 (gb657 ≠ gb641) := ⟨h17_⟩
                have n18_ : Aside0 (gb647 ≠ gb657) := ⟨h18_⟩
                have n19_ : Aside0 (gb657 ≠ gb647) := ⟨h19_⟩
                have n20_ : Aside0 (Below w.heap.size w w76) := ⟨h20_⟩
                clear HO_621000
                clear HO632
                clear HO638
                clear HO644
                clear BK620
                clear BK635
                clear BK641
                clear BK647
                clear HB
                clear h0_ h1_ h2_ h3_ h4_ h5_ h6_ h7_ h8_ h9_ h10_ h11_ h12_ h13_ h14_ h15_ h16_ h17_ h18_ h19_ h20_
                have HO632 := n0_
                have HO638 := n1_
                have HO644 := n2_
                have HO651 := n3_
                have HO_621000 := n4_
                have BK620 := n5_
                have BK635 := n6_
                have BK641 := n7_
                have BK647 := n8_
                have BK657 := n9_
                have GW657 := n10_
                have GE657 := n11_
                have NB620_657 := n12_
                have NB657_620 := n13_
                have NB635_657 := n14_
                have NB657_635 := n15_
                have NB641_657 := n16_
                have NB657_641 := n17_
                have NB647_657 := n18_
                have NB657_647 := n19_
                have HB := n20_
                clear n0_ n1_ n2_ n3_ n4_ n5_ n6_ n7_ n8_ n9_ n10_ n11_ n12_ n13_ n14_ n15_ n16_ n17_ n18_ n19_ n20_
                have hHeld : w76.cell? ⟨gb620, 0, none⟩ = some (.slice Ao50 x621000_1.length co50) ∧ w76.cell? ⟨gb620, 1, none⟩ = some (.int .i64 x621001_1) := hS_
                refine norm_ (a' := ?_) ?_ ?_
                rotate_left
                ·simp only [putAll, Act.put, List.setIfInBounds_toArray, List.set_cons_zero, List.set_cons_succ]
                 rfl
                refine on_ 7 66 HT_ (fun K hK => ?_)
                have hcv77 := own_string (P := Tryz.prog) Tryz.underlying22 Tryz.underlying5 Tryz.underlying9 (Kd.own_of_R HO651.out)
                refine value_ (w1 := ?_) (v := ?_) (by rfl) rfl ?_ ?_
                rotate_left 2
                ·go_simp
                 constructor
                 ·rfl
                 ·rfl
                clear hcv77
                refine hk_ hK 66 oH (fun hHeld => ?_)
                clear hK K
                refine pu_ 8 67 HT_ ?_
                exact norm_ (by first | (simp only [putAll, Act.put, List.setIfInBounds_toArray, List.set_cons_zero, List.set_cons_succ]; done) | (simp only [putAll, Act.put, List.setIfInBounds_toArray, List.set_cons_zero, List.set_cons_succ]; rfl)) (hJ2_6_7_13 (v650, gb657) _ ⟨hHeld, (nS0 HO632), (nS0 HO638), (nS0 HO644), (oR HO651), (nS0 HO_621000), (oF BK620), (oF BK635), (oF BK641), (oF BK647), (oF BK657), GW657.out, GE657.out, NB620_657.out, NB657_620.out, NB635_657.out, NB657_635.out, NB641_657.out, NB657_641.out, NB647_657.out, NB657_647.out, oB⟩)
              ·skip
               rintro v650 w76 ⟨hS_, h0_, h1_, h2_, h3_, h4_, h5_, h6_, h7_, h8_, h9_⟩
               have n0_ : Aside0 (Kd.S k51 51 w76 w.heap.size (fun k_ => some k_ ≠ (.slice Ao59 t636.length co59 : Value).ownBlock ∧ some k_ ≠ (.slice Ao66 t642.length co66 : Value).ownBlock ∧ some k_ ≠ (v650 : Value).ownBlock ∧ some k_ ≠ (.slice Ao50 x621000_1.length co50 : Value).ownBlock) (.slice Ao53 t630.length co53) t630) := ⟨h0_⟩
               have n1_ : Aside0 (Kd.S k51 51 w76 w.heap.size (fun k_ => some k_ ≠ (.slice Ao53 t630.length co53 : Value).ownBlock ∧ some k_ ≠ (.slice Ao66 t642.length co66 : Value).ownBlock ∧ some k_ ≠ (v650 : Value).ownBlock ∧ some k_ ≠ (.slice Ao50 x621000_1.length co50 : Value).ownBlock) (.slice Ao59 t636.length co59) t636) := ⟨h1_⟩
               have n2_ : Aside0 (Kd.S k51 51 w76 w.heap.size (fun k_ => some k_ ≠ (.slice Ao53 t630.length co53 : Value).ownBlock ∧ some k_ ≠ (.slice Ao59 t636.length co59 : Value).ownBlock ∧ some k_ ≠ (v650 : Value).ownBlock ∧ some k_ ≠ (.slice Ao50 x621000_1.length co50 : Value).ownBlock) (.slice Ao66 t642.length co66) t642) := ⟨h2_⟩
               have n3_ : Aside0 (Kd.R (Kd.int .u8) 5 w76 w.heap.size (fun _ => True) v650 y649) := ⟨h3_⟩
               have n4_ : Aside0 (Kd.S k51 51 w76 w.heap.size (fun k_ => some k_ ≠ (.slice Ao53 t630.length co53 : Value).ownBlock ∧ some k_ ≠ (.slice Ao59 t636.length co59 : Value).ownBlock ∧ some k_ ≠ (.slice Ao66 t642.length co66 : Value).ownBlock ∧ some k_ ≠ (v650 : Value).ownBlock) (.slice Ao50 x621000_1.length co50) x621000_1) := ⟨h4_⟩
               have n5_ : Aside0 (w76.heap[gb620]? = some (.cells #[.slice Ao50 x621000_1.length co50, .int .i64 x621001_1] 26 (0, 0))) := ⟨h5_⟩
               have n6_ : Aside0 (w76.heap[gb635]? = some (.cells #[.slice Ao53 t630.length co53, .int .i64 t633] 26 (0, 0))) := ⟨h6_⟩
               have n7_ : Aside0 (w76.heap[gb641]? = some (.cells #[.slice Ao59 t636.length co59, .int .i64 t639] 26 (0, 0))) := ⟨h7_⟩
               have n8_ : Aside0 (w76.heap[gb647]? = some (.cells #[.slice Ao66 t642.length co66, .int .i64 t645] 26 (0, 0))) := ⟨h8_⟩
               have n9_ : Aside0 (Below w.heap.size w w76) := ⟨h9_⟩
               clear HO_621000
               clear HO632
               clear HO638
               clear HO644
               clear BK620
               clear BK635
               clear BK641
               clear BK647
               clear HB
               clear h0_ h1_ h2_ h3_ h4_ h5_ h6_ h7_ h8_ h9_
               have HO632 := n0_
               have HO638 := n1_
               have HO644 := n2_
               have HO651 := n3_
               have HO_621000 := n4_
               have BK620 := n5_
               have BK635 := n6_
               have BK641 := n7_
               have BK647 := n8_
               have HB := n9_
               clear n0_ n1_ n2_ n3_ n4_ n5_ n6_ n7_ n8_ n9_
               have hHeld : w76.cell? ⟨gb620, 0, none⟩ = some (.slice Ao50 x621000_1.length co50) ∧ w76.cell? ⟨gb620, 1, none⟩ = some (.int .i64 x621001_1) := hS_
               refine norm_ (a' := ?_) ?_ ?_
               rotate_left
               ·simp only [putAll, Act.put, List.setIfInBounds_toArray, List.set_cons_zero, List.set_cons_succ]
                rfl
               refine two_ (i := 9) (j := 13) (Ni := some 68) (Nj := some 14) (lb 16 1023) (lb 16 8703) rfl rfl rfl rfl (two_of HT_.out (by kernel_rfl)) (by decide) (by decide) (fun K hK => ?_) (fun K hK => ?_)
               ·skip
                refine gr_ 68 Tryz.func29 (impl_Unlink.calls k1 _ _ x621000_1 x621001_1 ((⟨#[47, 100, 47]⟩ : ByteArray) ++ (strOfNums y649)) t652 t655 t656 _ (rcS0 HO_621000) (rnS HO_621000) A42.out) ?_
                rintro e w77 ⟨v653, rfl, ho0, hb⟩
                refine ⟨_, rfl, ?_⟩
                have HO654 := Aside0.mk (Kd.S_lower (Kd.S_new' (Kd.S_new' (Kd.S_new' (Kd.S_new' (Kd.S_new' ho0 (ltS0 HO_621000)) (ltS0 HO632)) (ltS0 HO638)) (ltS0 HO644)) (kl_ HO651)) (below_size oB))
                replace HO_621000 := elS0 HO_621000 (Kd.S_base ho0) hb
                replace HO632 := elS0 HO632 (Kd.S_base ho0) hb
                replace HO638 := elS0 HO638 (Kd.S_base ho0) hb
                replace HO644 := elS0 HO644 (Kd.S_base ho0) hb
                replace HO651 := kr_ HO651 hb
                replace BK620 := kb_ BK620 hb
                replace BK635 := kb_ BK635 hb
                replace BK641 := kb_ BK641 hb
                replace BK647 := kb_ BK647 hb
                replace HB := Aside0.mk (below_step oB hb)
                refine hk_ hK 68 oH (fun hHeld => ?_)
                clear hK K
                refine pu_ 10 58 HT_ ?_
                refine pu_ 11 69 HT_ ?_
                refine pu_ 12 70 HT_ ?_
                exact norm_ (by first | (simp only [putAll, Act.put, List.setIfInBounds_toArray, List.set_cons_zero, List.set_cons_succ]; done) | (simp only [putAll, Act.put, List.setIfInBounds_toArray, List.set_cons_zero, List.set_cons_succ]; rfl)) (hJ2_6_7_9 (v650, v653) _ ⟨hHeld, (by (with_reducible repeat (first | apply Kd.S_alloc | apply Kd.S_drewN | apply Kd.S_drew)); exact Kd.S_mono HO632.out (fun _ hk => ⟨hk.1.1, ⟨hk.1.2.1, ⟨hk.1.2.2.1, ⟨hk.2, hk.1.2.2.2⟩⟩⟩⟩)), (by (with_reducible repeat (first | apply Kd.S_alloc | apply Kd.S_drewN | apply Kd.S_drew)); exact Kd.S_mono HO638.out (fun _ hk => ⟨hk.1.1, ⟨hk.1.2.1, ⟨hk.1.2.2.1, ⟨hk.2, hk.1.2.2.2⟩⟩⟩⟩)), (by (with_reducible repeat (first | apply Kd.S_alloc | apply Kd.S_drewN | apply Kd.S_drew)); exact Kd.S_mono HO644.out (fun _ hk => ⟨hk.1.1, ⟨hk.1.2.1, ⟨hk.1.2.2.1, ⟨hk.2, hk.1.2.2.2⟩⟩⟩⟩)), (oR HO651), (by (with_reducible repeat (first | apply Kd.S_alloc | apply Kd.S_drewN | apply Kd.S_drew)); exact Kd.S_mono HO654.out (fun _ hk => ⟨hk.1.1.1.2, ⟨hk.1.1.2, ⟨hk.1.2, ⟨hk.2, hk.1.1.1.1.2⟩⟩⟩⟩)), (by (with_reducible repeat (first | apply Kd.S_alloc | apply Kd.S_drewN | apply Kd.S_drew)); exact Kd.S_mono HO_621000.out (fun _ hk => ⟨hk.1.1, ⟨hk.1.2.1, ⟨hk.1.2.2.1, ⟨hk.1.2.2.2, hk.2⟩⟩⟩⟩)), (oF BK620), (oF BK635), (oF BK641), (oF BK647), oB⟩)
               ·skip
                refine box_step ?hg (N := 14) ?hd (cs := #[.slice none 0 0, .int .i64 0]) (t := 26) ?hr ?_; (case hd => rfl); (case hg => rfl); (case hr => first | (go_simp; done) | (go_simp; rfl))
                intro gb657 hg w77 hbox hb
                have BK657 := Aside0.mk (hbox)
                have GW657 := gs_ hg
                have GE657 := gs_ hg
                have NB620_657 := nl_ hg BK620
                have NB657_620 := nr_ hg BK620
                have NB635_657 := nl_ hg BK635
                have NB657_635 := nr_ hg BK635
                have NB641_657 := nl_ hg BK641
                have NB657_641 := nr_ hg BK641
                have NB647_657 := nl_ hg BK647
                have NB657_647 := nr_ hg BK647
                replace HO_621000 := beS0 HO_621000 hb
                replace HO632 := beS0 HO632 hb
                replace HO638 := beS0 HO638 hb
                replace HO644 := beS0 HO644 hb
                replace HO651 := kr_ HO651 hb
                replace BK620 := kb_ BK620 hb
                replace BK635 := kb_ BK635 hb
                replace BK641 := kb_ BK641 hb
                replace BK647 := kb_ BK647 hb
                replace HB := Aside0.mk (below_step oB hb)
                clear hb hbox hg
                refine hk_ hK 14 oH (fun hHeld => ?_)
                clear hK K
                exact norm_ (by first | (simp only [putAll, Act.put, List.setIfInBounds_toArray, List.set_cons_zero, List.set_cons_succ]; done) | (simp only [putAll, Act.put, List.setIfInBounds_toArray, List.set_cons_zero, List.set_cons_succ]; rfl)) (hJ2_6_7_13 (v650, gb657) _ ⟨hHeld, (nS0 HO632), (nS0 HO638), (nS0 HO644), (oR HO651), (nS0 HO_621000), (oF BK620), (oF BK635), (oF BK641), (oF BK647), (oF BK657), GW657.out, GE657.out, NB620_657.out, NB657_620.out, NB635_657.out, NB657_635.out, NB641_657.out, NB657_641.out, NB647_657.out, NB657_647.out, oB⟩)
             ·skip
              rintro ⟨v650, gb657⟩ w77 ⟨hS_, h0_, h1_, h2_, h3_, h4_, h5_, h6_, h7_, h8_, h9_, h10_, h11_, h12_, h13_, h14_, h15_, h16_, h17_, h18_, h19_, h20_⟩
              have n0_ : Aside0 (Kd.S k51 51 w77 w.heap.size (fun k_ => some k_ ≠ (.slice Ao59 t636.length co59 : Value).ownBlock ∧ some k_ ≠ (.slice Ao66 t642.length co66 : Value).ownBlock ∧ some k_ ≠ (v650 : Value).ownBlock ∧ some k_ ≠ (.slice Ao50 x621000_1.length co50 : Value).ownBlock) (.slice Ao53 t630.length co53) t630) := ⟨h0_⟩
              have n1_ : Aside0 (Kd.S k51 51 w77 w.heap.size (fun k_ => some k_ ≠ (.slice Ao53 t630.length co53 : Value).ownBlock ∧ some k_ ≠ (.slice Ao66 t642.length co66 : Value).ownBlock ∧ some k_ ≠ (v650 : Value).ownBlock ∧ some k_ ≠ (.slice Ao50 x621000_1.length co50 : Value).ownBlock) (.slice Ao59 t636.length co59) t636) := ⟨h1_⟩
              have n2_ : Aside0 (Kd.S k51 51 w77 w.heap.size (fun k_ => some k_ ≠ (.slice Ao53 t630.length co53 : Value).ownBlock ∧ some k_ ≠ (.slice Ao59 t636.length co59 : Value).ownBlock ∧ some k_ ≠ (v650 : Value).ownBlock ∧ some k_ ≠ (.slice Ao50 x621000_1.length co50 : Value).ownBlock) (.slice Ao66 t642.length co66) t642) := ⟨h2_⟩
              have n3_ : Aside0 (Kd.R (Kd.int .u8) 5 w77 w.heap.size (fun _ => True) v650 y649) := ⟨h3_⟩
              have n4_ : Aside0 (Kd.S k51 51 w77 w.heap.size (fun k_ => some k_ ≠ (.slice Ao53 t630.length co53 : Value).ownBlock ∧ some k_ ≠ (.slice Ao59 t636.length co59 : Value).ownBlock ∧ some k_ ≠ (.slice Ao66 t642.length co66 : Value).ownBlock ∧ some k_ ≠ (v650 : Value).ownBlock) (.slice Ao50 x621000_1.length co50) x621000_1) := ⟨h4_⟩
              have n5_ : Aside0 (w77.heap[gb620]? = some (.cells #[.slice Ao50 x621000_1.length co50, .int .i64 x621001_1] 26 (0, 0))) := ⟨h5_⟩
              have n6_ : Aside0 (w77.heap[gb635]? = some (.cells #[.slice Ao53 t630.length co53, .int .i64 t633] 26 (0, 0))) := ⟨h6_⟩
              have n7_ : Aside0 (w77.heap[gb641]? = some (.cells #[.slice Ao59 t636.length co59, .int .i64 t639] 26 (0, 0))) := ⟨h7_⟩
              have n8_ : Aside0 (w77.heap[gb647]? = some (.cells #[.slice Ao66 t642.length co66, .int .i64 t645] 26 (0, 0))) := ⟨h8_⟩
              have n9_ : Aside0 (w77.heap[gb657]? = some (.cells #[.slice none 0 0, .int .i64 0] 26 (0, 0))) := ⟨h9_⟩
              have n10_ : Aside0 (w.heap.size ≤ gb657) := ⟨h10_⟩
              have n11_ : Aside0 (w.heap.size ≤ gb657) := ⟨h11_⟩
              have n12_ : Aside0 (gb620 ≠ gb657) := ⟨h12_⟩
              have n13_ : Aside0 (gb657 ≠ gb620) := ⟨h13_⟩
              have n14_ : Aside0 (gb635 ≠ gb657) := ⟨h14_⟩
              have n15_ : Aside0 (gb657 ≠ gb635) := ⟨h15_⟩
              have n16_ : Aside0 (gb641 ≠ gb657) := ⟨h16_⟩
              have n17_ : Aside0 (gb657 ≠ gb641) := ⟨h17_⟩
              have n18_ : Aside0 (gb647 ≠ gb657) := ⟨h18_⟩
              have n19_ : Aside0 (gb657 ≠ gb647) := ⟨h19_⟩
              have n20_ : Aside0 (Below w.heap.size w w77) := ⟨h20_⟩
              clear HO_621000
              clear HO632
              clear HO638
              clear HO644
              clear BK620
              clear BK635
              clear BK641
              clear BK647
              clear HB
              clear h0_ h1_ h2_ h3_ h4_ h5_ h6_ h7_ h8_ h9_ h10_ h11_ h12_ h13_ h14_ h15_ h16_ h17_ h18_ h19_ h20_
              have HO632 := n0_
              have HO638 := n1_
              have HO644 := n2_
              have HO651 := n3_
              have HO_621000 := n4_
              have BK620 := n5_
              have BK635 := n6_
              have BK641 := n7_
              have BK647 := n8_
              have BK657 := n9_
              have GW657 := n10_
              have GE657 := n11_
              have NB620_657 := n12_
              have NB657_620 := n13_
              have NB635_657 := n14_
              have NB657_635 := n15_
              have NB641_657 := n16_
              have NB657_641 := n17_
              have NB647_657 := n18_
              have NB657_647 := n19_
              have HB := n20_
              clear n0_ n1_ n2_ n3_ n4_ n5_ n6_ n7_ n8_ n9_ n10_ n11_ n12_ n13_ n14_ n15_ n16_ n17_ n18_ n19_ n20_
              have hHeld : w77.cell? ⟨gb620, 0, none⟩ = some (.slice Ao50 x621000_1.length co50) ∧ w77.cell? ⟨gb620, 1, none⟩ = some (.int .i64 x621001_1) := hS_
              refine norm_ (a' := ?_) ?_ ?_
              rotate_left
              ·simp only [putAll, Act.put, List.setIfInBounds_toArray, List.set_cons_zero, List.set_cons_succ]
               rfl
              refine on_ 9 68 HT_ (fun K hK => ?_)
              refine gr_ 68 Tryz.func29 (impl_Unlink.calls k1 _ _ x621000_1 x621001_1 ((⟨#[47, 100, 47]⟩ : ByteArray) ++ (strOfNums y649)) t652 t655 t656 _ (rcS0 HO_621000) (rnS HO_621000) A42.out) ?_
              rintro e w78 ⟨v653, rfl, ho0, hb⟩
              refine ⟨_, rfl, ?_⟩
              have HO654 := Aside0.mk (Kd.S_lower (Kd.S_new' (Kd.S_new' (Kd.S_new' (Kd.S_new' (Kd.S_new' ho0 (ltS0 HO_621000)) (ltS0 HO632)) (ltS0 HO638)) (ltS0 HO644)) (kl_ HO651)) (below_size oB))
              replace HO_621000 := elS0 HO_621000 (Kd.S_base ho0) hb
              replace HO632 := elS0 HO632 (Kd.S_base ho0) hb
              replace HO638 := elS0 HO638 (Kd.S_base ho0) hb
              replace HO644 := elS0 HO644 (Kd.S_base ho0) hb
              replace HO651 := kr_ HO651 hb
              replace BK620 := kb_ BK620 hb
              replace BK635 := kb_ BK635 hb
              replace BK641 := kb_ BK641 hb
              replace BK647 := kb_ BK647 hb
              replace BK657 := kb_ BK657 hb
              replace HB := Aside0.mk (below_step oB hb)
              refine hk_ hK 68 oH (fun hHeld => ?_)
              clear hK K
              refine pu_ 10 58 HT_ ?_
              refine pu_ 11 69 HT_ ?_
              refine pu_ 12 70 HT_ ?_
              exact norm_ (by first | (simp only [putAll, Act.put, List.setIfInBounds_toArray, List.set_cons_zero, List.set_cons_succ]; done) | (simp only [putAll, Act.put, List.setIfInBounds_toArray, List.set_cons_zero, List.set_cons_succ]; rfl)) (hJ2_6_7_9_13 (v650, v653, gb657) _ ⟨hHeld, (by (with_reducible repeat (first | apply Kd.S_alloc | apply Kd.S_drewN | apply Kd.S_drew)); exact Kd.S_mono HO632.out (fun _ hk => ⟨hk.1.1, ⟨hk.1.2.1, ⟨hk.1.2.2.1, ⟨hk.2, hk.1.2.2.2⟩⟩⟩⟩)), (by (with_reducible repeat (first | apply Kd.S_alloc | apply Kd.S_drewN | apply Kd.S_drew)); exact Kd.S_mono HO638.out (fun _ hk => ⟨hk.1.1, ⟨hk.1.2.1, ⟨hk.1.2.2.1, ⟨hk.2, hk.1.2.2.2⟩⟩⟩⟩)), (by (with_reducible repeat (first | apply Kd.S_alloc | apply Kd.S_drewN | apply Kd.S_drew)); exact Kd.S_mono HO644.out (fun _ hk => ⟨hk.1.1, ⟨hk.1.2.1, ⟨hk.1.2.2.1, ⟨hk.2, hk.1.2.2.2⟩⟩⟩⟩)), (oR HO651), (by (with_reducible repeat (first | apply Kd.S_alloc | apply Kd.S_drewN | apply Kd.S_drew)); exact Kd.S_mono HO654.out (fun _ hk => ⟨hk.1.1.1.2, ⟨hk.1.1.2, ⟨hk.1.2, ⟨hk.2, hk.1.1.1.1.2⟩⟩⟩⟩)), (by (with_reducible repeat (first | apply Kd.S_alloc | apply Kd.S_drewN | apply Kd.S_drew)); exact Kd.S_mono HO_621000.out (fun _ hk => ⟨hk.1.1, ⟨hk.1.2.1, ⟨hk.1.2.2.1, ⟨hk.1.2.2.2, hk.2⟩⟩⟩⟩)), (oF BK620), (oF BK635), (oF BK641), (oF BK647), (oF BK657), GW657.out, GE657.out, NB620_657.out, NB657_620.out, NB635_657.out, NB657_635.out, NB641_657.out, NB657_641.out, NB647_657.out, NB657_647.out, oB⟩)
            ·skip
             rintro ⟨v650, v653⟩ w77 ⟨hS_, h0_, h1_, h2_, h3_, h4_, h5_, h6_, h7_, h8_, h9_, h10_⟩
             have n0_ : Aside0 (Kd.S k51 51 w77 w.heap.size (fun k_ => some k_ ≠ (.slice Ao59 t636.length co59 : Value).ownBlock ∧ some k_ ≠ (.slice Ao66 t642.length co66 : Value).ownBlock ∧ some k_ ≠ (v650 : Value).ownBlock ∧ some k_ ≠ (v653 : Value).ownBlock ∧ some k_ ≠ (.slice Ao50 x621000_1.length co50 : Value).ownBlock) (.slice Ao53 t630.length co53) t630) := ⟨h0_⟩
             have n1_ : Aside0 (Kd.S k51 51 w77 w.heap.size (fun k_ => some k_ ≠ (.slice Ao53 t630.length co53 : Value).ownBlock ∧ some k_ ≠ (.slice Ao66 t642.length co66 : Value).ownBlock ∧ some k_ ≠ (v650 : Value).ownBlock ∧ some k_ ≠ (v653 : Value).ownBlock ∧ some k_ ≠ (.slice Ao50 x621000_1.length co50 : Value).ownBlock) (.slice Ao59 t636.length co59) t636) := ⟨h1_⟩
             have n2_ : Aside0 (Kd.S k51 51 w77 w.heap.size (fun k_ => some k_ ≠ (.slice Ao53 t630.length co53 : Value).ownBlock ∧ some k_ ≠ (.slice Ao59 t636.length co59 : Value).ownBlock ∧ some k_ ≠ (v650 : Value).ownBlock ∧ some k_ ≠ (v653 : Value).ownBlock ∧ some k_ ≠ (.slice Ao50 x621000_1.length co50 : Value).ownBlock) (.slice Ao66 t642.length co66) t642) := ⟨h2_⟩
             have n3_ : Aside0 (Kd.R (Kd.int .u8) 5 w77 w.heap.size (fun _ => True) v650 y649) := ⟨h3_⟩
             have n4_ : Aside0 (Kd.S k51 51 w77 w.heap.size (fun k_ => some k_ ≠ (.slice Ao53 t630.length co53 : Value).ownBlock ∧ some k_ ≠ (.slice Ao59 t636.length co59 : Value).ownBlock ∧ some k_ ≠ (.slice Ao66 t642.length co66 : Value).ownBlock ∧ some k_ ≠ (v650 : Value).ownBlock ∧ some k_ ≠ (.slice Ao50 x621000_1.length co50 : Value).ownBlock) v653 t652) := ⟨h4_⟩
             have n5_ : Aside0 (Kd.S k51 51 w77 w.heap.size (fun k_ => some k_ ≠ (.slice Ao53 t630.length co53 : Value).ownBlock ∧ some k_ ≠ (.slice Ao59 t636.length co59 : Value).ownBlock ∧ some k_ ≠ (.slice Ao66 t642.length co66 : Value).ownBlock ∧ some k_ ≠ (v650 : Value).ownBlock ∧ some k_ ≠ (v653 : Value).ownBlock) (.slice Ao50 x621000_1.length co50) x621000_1) := ⟨h5_⟩
             have n6_ : Aside0 (w77.heap[gb620]? = some (.cells #[.slice Ao50 x621000_1.length co50, .int .i64 x621001_1] 26 (0, 0))) := ⟨h6_⟩
             have n7_ : Aside0 (w77.heap[gb635]? = some (.cells #[.slice Ao53 t630.length co53, .int .i64 t633] 26 (0, 0))) := ⟨h7_⟩
             have n8_ : Aside0 (w77.heap[gb641]? = some (.cells #[.slice Ao59 t636.length co59, .int .i64 t639] 26 (0, 0))) := ⟨h8_⟩
             have n9_ : Aside0 (w77.heap[gb647]? = some (.cells #[.slice Ao66 t642.length co66, .int .i64 t645] 26 (0, 0))) := ⟨h9_⟩
             have n10_ : Aside0 (Below w.heap.size w w77) := ⟨h10_⟩
             clear HO_621000
             clear HO632
             clear HO638
             clear HO644
             clear BK620
             clear BK635
             clear BK641
             clear BK647
             clear HB
             clear h0_ h1_ h2_ h3_ h4_ h5_ h6_ h7_ h8_ h9_ h10_
             have HO632 := n0_
             have HO638 := n1_
             have HO644 := n2_
             have HO651 := n3_
             have HO654 := n4_
             have HO_621000 := n5_
             have BK620 := n6_
             have BK635 := n7_
             have BK641 := n8_
             have BK647 := n9_
             have HB := n10_
             clear n0_ n1_ n2_ n3_ n4_ n5_ n6_ n7_ n8_ n9_ n10_
             have hHeld : w77.cell? ⟨gb620, 0, none⟩ = some (.slice Ao50 x621000_1.length co50) ∧ w77.cell? ⟨gb620, 1, none⟩ = some (.int .i64 x621001_1) := hS_
             refine norm_ (a' := ?_) ?_ ?_
             rotate_left
             ·simp only [putAll, Act.put, List.setIfInBounds_toArray, List.set_cons_zero, List.set_cons_succ]
              rfl
             refine on_ 13 14 HT_ (fun K hK => ?_)
             refine box_step ?hg (N := 14) ?hd (cs := #[.slice none 0 0, .int .i64 0]) (t := 26) ?hr ?_; (case hd => rfl); (case hg => rfl); (case hr => first | (go_simp; done) | (go_simp; rfl))
             intro gb657 hg w78 hbox hb
             have BK657 := Aside0.mk (hbox)
             have GW657 := gs_ hg
             have GE657 := gs_ hg
             have NB620_657 := nl_ hg BK620
             have NB657_620 := nr_ hg BK620
             have NB635_657 := nl_ hg BK635
             have NB657_635 := nr_ hg BK635
             have NB641_657 := nl_ hg BK641
             have NB657_641 := nr_ hg BK641
             have NB647_657 := nl_ hg BK647
             have NB657_647 := nr_ hg BK647
             replace HO_621000 := beS0 HO_621000 hb
             replace HO632 := beS0 HO632 hb
             replace HO638 := beS0 HO638 hb
             replace HO644 := beS0 HO644 hb
             replace HO651 := kr_ HO651 hb
             replace HO654 := beS0 HO654 hb
             replace BK620 := kb_ BK620 hb
             replace BK635 := kb_ BK635 hb
             replace BK641 := kb_ BK641 hb
             replace BK647 := kb_ BK647 hb
             replace HB := Aside0.mk (below_step oB hb)
             clear hb hbox hg
             refine hk_ hK 14 oH (fun hHeld => ?_)
             clear hK K
             exact norm_ (by first | (simp only [putAll, Act.put, List.setIfInBounds_toArray, List.set_cons_zero, List.set_cons_succ]; done) | (simp only [putAll, Act.put, List.setIfInBounds_toArray, List.set_cons_zero, List.set_cons_succ]; rfl)) (hJ2_6_7_9_13 (v650, v653, gb657) _ ⟨hHeld, (nS0 HO632), (nS0 HO638), (nS0 HO644), (oR HO651), (nS0 HO654), (nS0 HO_621000), (oF BK620), (oF BK635), (oF BK641), (oF BK647), (oF BK657), GW657.out, GE657.out, NB620_657.out, NB657_620.out, NB635_657.out, NB657_635.out, NB641_657.out, NB657_641.out, NB647_657.out, NB657_647.out, oB⟩)
           rintro ⟨v650, v653, gb657⟩ w78 ⟨hS_, h0_, h1_, h2_, h3_, h4_, h5_, h6_, h7_, h8_, h9_, h10_, h11_, h12_, h13_, h14_, h15_, h16_, h17_, h18_, h19_, h20_, h21_⟩
           have n0_ : Aside0 (Kd.S k51 51 w78 w.heap.size (fun k_ => some k_ ≠ (.slice Ao59 t636.length co59 : Value).ownBlock ∧ some k_ ≠ (.slice Ao66 t642.length co66 : Value).ownBlock ∧ some k_ ≠ (v650 : Value).ownBlock ∧ some k_ ≠ (v653 : Value).ownBlock ∧ some k_ ≠ (.slice Ao50 x621000_1.length co50 : Value).ownBlock) (.slice Ao53 t630.length co53) t630) := ⟨h0_⟩
           have n1_ : Aside0 (Kd.S k51 51 w78 w.heap.size (fun k_ => some k_ ≠ (.slice Ao53 t630.length co53 : Value).ownBlock ∧ some k_ ≠ (.slice Ao66 t642.length co66 : Value).ownBlock ∧ some k_ ≠ (v650 : Value).ownBlock ∧ some k_ ≠ (v653 : Value).ownBlock ∧ some k_ ≠ (.slice Ao50 x621000_1.length co50 : Value).ownBlock) (.slice Ao59 t636.length co59) t636) := ⟨h1_⟩
           have n2_ : Aside0 (Kd.S k51 51 w78 w.heap.size (fun k_ => some k_ ≠ (.slice Ao53 t630.length co53 : Value).ownBlock ∧ some k_ ≠ (.slice Ao59 t636.length co59 : Value).ownBlock ∧ some k_ ≠ (v650 : Value).ownBlock ∧ some k_ ≠ (v653 : Value).ownBlock ∧ some k_ ≠ (.slice Ao50 x621000_1.length co50 : Value).ownBlock) (.slice Ao66 t642.length co66) t642) := ⟨h2_⟩
           have n3_ : Aside0 (Kd.R (Kd.int .u8) 5 w78 w.heap.size (fun _ => True) v650 y649) := ⟨h3_⟩
           have n4_ : Aside0 (Kd.S k51 51 w78 w.heap.size (fun k_ => some k_ ≠ (.slice Ao53 t630.length co53 : Value).ownBlock ∧ some k_ ≠ (.slice Ao59 t636.length co59 : Value).ownBlock ∧ some k_ ≠ (.slice Ao66 t642.length co66 : Value).ownBlock ∧ some k_ ≠ (v650 : Value).ownBlock ∧ some k_ ≠ (.slice Ao50 x621000_1.length co50 : Value).ownBlock) v653 t652) := ⟨h4_⟩
           have n5_ : Aside0 (Kd.S k51 51 w78 w.heap.size (fun k_ => some k_ ≠ (.slice Ao53 t630.length co53 : Value).ownBlock ∧ some k_ ≠ (.slice Ao59 t636.length co59 : Value).ownBlock ∧ some k_ ≠ (.slice Ao66 t642.length co66 : Value).ownBlock ∧ some k_ ≠ (v650 : Value).ownBlock ∧ some k_ ≠ (v653 : Value).ownBlock) (.slice Ao50 x621000_1.length co50) x621000_1) := ⟨h5_⟩
           have n6_ : Aside0 (w78.heap[gb620]? = some (.cells #[.slice Ao50 x621000_1.length co50, .int .i64 x621001_1] 26 (0, 0))) := ⟨h6_⟩
           have n7_ : Aside0 (w78.heap[gb635]? = some (.cells #[.slice Ao53 t630.length co53, .int .i64 t633] 26 (0, 0))) := ⟨h7_⟩
           have n8_ : Aside0 (w78.heap[gb641]? = some (.cells #[.slice Ao59 t636.length co59, .int .i64 t639] 26 (0, 0))) := ⟨h8_⟩
           have n9_ : Aside0 (w78.heap[gb647]? = some (.cells #[.slice Ao66 t642.length co66, .int .i64 t645] 26 (0, 0))) := ⟨h9_⟩
           have n10_ : Aside0 (w78.heap[gb657]? = some (.cells #[.slice none 0 0, .int .i64 0] 26 (0, 0))) := ⟨h10_⟩
           have n11_ : Aside0 (w.heap.size ≤ gb657) := ⟨h11_⟩
           have n12_ : Aside0 (w.heap.size ≤ gb657) := ⟨h12_⟩
           have n13_ : Aside0 (gb620 ≠ gb657) := ⟨h13_⟩
           have n14_ : Aside0 (gb657 ≠ gb620) := ⟨h14_⟩
           have n15_ : Aside0 (gb635 ≠ gb657) := ⟨h15_⟩
           have n16_ : Aside0 (gb657 ≠ gb635) := ⟨h16_⟩
           have n17_ : Aside0 (gb641 ≠ gb657) := ⟨h17_⟩
           have n18_ : Aside0 (gb657 ≠ gb641) := ⟨h18_⟩
           have n19_ : Aside0 (gb647 ≠ gb657) := ⟨h19_⟩
           have n20_ : Aside0 (gb657 ≠ gb647) := ⟨h20_⟩
           have n21_ : Aside0 (Below w.heap.size w w78) := ⟨h21_⟩
           clear HO_621000
           clear HO632
           clear HO638
           clear HO644
           clear BK620
           clear BK635
           clear BK641
           clear BK647
           clear HB
           clear h0_ h1_ h2_ h3_ h4_ h5_ h6_ h7_ h8_ h9_ h10_ h11_ h12_ h13_ h14_ h15_ h16_ h17_ h18_ h19_ h20_ h21_
           have HO632 := n0_
           have HO638 := n1_
           have HO644 := n2_
           have HO651 := n3_
           have HO654 := n4_
           have HO_621000 := n5_
           have BK620 := n6_
           have BK635 := n7_
           have BK641 := n8_
           have BK647 := n9_
           have BK657 := n10_
           have GW657 := n11_
           have GE657 := n12_
           have NB620_657 := n13_
           have NB657_620 := n14_
           have NB635_657 := n15_
           have NB657_635 := n16_
           have NB641_657 := n17_
           have NB657_641 := n18_
           have NB647_657 := n19_
           have NB657_647 := n20_
           have HB := n21_
           clear n0_ n1_ n2_ n3_ n4_ n5_ n6_ n7_ n8_ n9_ n10_ n11_ n12_ n13_ n14_ n15_ n16_ n17_ n18_ n19_ n20_ n21_
           have hHeld : w78.cell? ⟨gb620, 0, none⟩ = some (.slice Ao50 x621000_1.length co50) ∧ w78.cell? ⟨gb620, 1, none⟩ = some (.int .i64 x621001_1) := hS_
           obtain ⟨Ao79, co79, eo79⟩ := Kd.S_slice HO654.out
           (first | subst eo79 | (injection eo79 with f1_ f2_ f3_; have f4_ := f1_.symm; have f5_ := f3_.symm; clear f1_ f2_ f3_; subst f4_; subst f5_))
           refine norm_ (a' := ?_) ?_ ?_
           rotate_left
           ·simp only [putAll, Act.put, List.setIfInBounds_toArray, List.set_cons_zero, List.set_cons_succ]
            rfl
           refine one_ (i := 14) (N := none) (lb 16 32767) rfl rfl (one_of HT_.out (by kernel_rfl)) (by decide) (fun K hK => ?_)
           have hs80 : w78.cell? ⟨gb657, 0, none⟩ = some (.slice none 0 0) := (blk_cell BK657.out 0).trans rfl
           have hfs80 := blk_frozen BK657.out 0
           have hns80_0 := NB620_657.out
           have hns80_1 := NB635_657.out
           have hns80_2 := NB641_657.out
           have hns80_3 := NB647_657.out
           have hms80_0 := NB657_620.out
           have hms80_1 := NB657_635.out
           have hms80_2 := NB657_641.out
           have hms80_3 := NB657_647.out
           have hs81 : w78.cell? ⟨gb657, 1, none⟩ = some (.int .i64 0) := (blk_cell BK657.out 1).trans rfl
           have hfs81 := blk_frozen BK657.out 1
           have hns81_0 := NB620_657.out
           have hns81_1 := NB635_657.out
           have hns81_2 := NB641_657.out
           have hns81_3 := NB647_657.out
           have hms81_0 := NB657_620.out
           have hms81_1 := NB657_635.out
           have hms81_2 := NB657_641.out
           have hms81_3 := NB657_647.out
           refine skip_ (w1 := ?_) (by rfl) rfl ?_ ?_
           rotate_left
           ·go_simp
            rfl
           refine hK.out _ _ ⟨((cell_far (p := ⟨gb657, _, none⟩) NB620_657.out _).trans (((cell_far (p := ⟨gb657, _, none⟩) NB620_657.out _).trans (hHeld.1)))), ((cell_far (p := ⟨gb657, _, none⟩) NB620_657.out _).trans (((cell_far (p := ⟨gb657, _, none⟩) NB620_657.out _).trans (hHeld.2))))⟩ (fun hHeld => ?_)
           clear hK K
           refine pu_ 15 15 HT_ ?_
           refine dn_ HT_ ?_
           have hnb82 := NB657_620.out
           have hnc82 := NB620_657.out
           have hnb83 := NB657_635.out
           have hnc83 := NB635_657.out
           have hnb84 := NB657_641.out
           have hnc84 := NB641_657.out
           have hnb85 := NB657_647.out
           have hnc85 := NB647_657.out
           obtain ⟨⟨_, _⟩, _, _⟩ := z2 BK657
           try go_wp2_with (first | ((with_reducible refine gate_callee (f := 15) rfl ?_); refine gl_ 73 Tryz.func15 (impl_MakeFile.calls k1 _ _ t652 t655 (⟨#[47, 100, 47, 122]⟩ : ByteArray) t658 t661 t662 _ (rcS1 HO654 BK657) (rnS HO654) A43.out) ?_; rintro e w87 ⟨v659, rfl, ho0, hb⟩; refine ⟨_, rfl, ?_⟩; have HO660 := Aside0.mk (Kd.S_lower (Kd.S_new' (Kd.S_new' (Kd.S_new' (Kd.S_new' (Kd.S_new' (Kd.S_new' ho0 (ltS1 HO_621000 BK657)) (ltS1 HO632 BK657)) (ltS1 HO638 BK657)) (ltS1 HO644 BK657)) (ltR1 HO651 BK657)) (ltS1 HO654 BK657)) (below_size oB)); replace HO_621000 := elS1 HO_621000 BK657 (Kd.S_base ho0) hb; replace HO632 := elS1 HO632 BK657 (Kd.S_base ho0) hb; replace HO638 := elS1 HO638 BK657 (Kd.S_base ho0) hb; replace HO644 := elS1 HO644 BK657 (Kd.S_base ho0) hb; replace HO651 := beR1 HO651 BK657 hb; replace HO654 := elS1 HO654 BK657 (Kd.S_base ho0) hb; replace BK620 := kb_ BK620 hb; replace BK635 := kb_ BK635 hb; replace BK641 := kb_ BK641 hb; replace BK647 := kb_ BK647 hb; replace BK657 := kp_ #[.slice Ao79 t652.length co79, .int .i64 t655] BK657 hb; replace HB := Aside0.mk (below_step oB hb); (try clear hk)) | ((with_reducible refine gate_dst (N := 16) rfl ?_); refine bx_ 16 #[.slice none 0 0, .int .i64 0] 26 ?_; intro gb663 hg w88 hbox hb; have BK663 := Aside0.mk (hbox); have GW663 := gs_ hg; have NB620_663 := nl_ hg BK620; have NB663_620 := nr_ hg BK620; have NB635_663 := nl_ hg BK635; have NB663_635 := nr_ hg BK635; have NB641_663 := nl_ hg BK641; have NB663_641 := nr_ hg BK641; have NB647_663 := nl_ hg BK647; have NB663_647 := nr_ hg BK647; have NB657_663 := nl_ hg BK657; have NB663_657 := nr_ hg BK657; replace HO_621000 := beS0 HO_621000 hb; replace HO632 := beS0 HO632 hb; replace HO638 := beS0 HO638 hb; replace HO644 := beS0 HO644 hb; replace HO651 := kr_ HO651 hb; replace HO654 := beS0 HO654 hb; replace HO660 := beS0 HO660 hb; replace BK620 := kb_ BK620 hb; replace BK635 := kb_ BK635 hb; replace BK641 := kb_ BK641 hb; replace BK647 := kb_ BK647 hb; replace BK657 := kb_ BK657 hb; replace HB := Aside0.mk (below_step oB hb); clear hb hbox hg; obtain ⟨Ao89, co89, eo89⟩ := Kd.S_slice HO660.out; subst eo89; have hnb90 := NB663_620.out; have hnc90 := NB620_663.out; have hnb91 := NB663_635.out; have hnc91 := NB635_663.out; have hnb92 := NB663_641.out; have hnc92 := NB641_663.out; have hnb93 := NB663_647.out; have hnc93 := NB647_663.out; have hnb94 := NB663_657.out; have hnc94 := NB657_663.out; obtain ⟨⟨_, _⟩, _, _⟩ := z2 BK663))
           go_ret
           exact ⟨oE, oB⟩
          ·rw [if_neg c48] at H
           cases H
         ·rw [if_neg c47] at H
          cases H
        ·rw [if_neg c46] at H
         cases H
       ·rw [if_neg c45] at H
        cases H
      ·rw [if_neg c44] at H
       cases H
     ·rw [if_neg c41] at H
      exact absurd H (by simp)

/-- THE ONE PURE STATEMENT of laws_FnFullDir: yours. -/
def laws_FnFullDir.Pure : Prop := ∀ (l0 : List Int), l0.length ≤ maxLen → l0.length * 1 ≤ 140737488351232 → (∀ x ∈ l0, (Lit.int .u8 x).wf = true) → ∃ k, laws_FnFullDir.f k l0 = some true
theorem laws_FnFullDir.walk (P : laws_FnFullDir.Pure) (a0 : Option Addr) (len0 cap0 : Nat) (z0 : List Int) (w : World) (w0 : (a0 = none ∧ len0 = 0 ∧ cap0 = 0 ∧ z0 = []) ∨ ∃ x, a0 = some x ∧ len0 ≤ cap0 ∧ cap0 ≤ maxLen ∧ z0.length = cap0 ∧ (∀ i, i < z0.length → w.cell? (x.add i) = some (.int .u8 (z0.getD i 0))) ∧ ∀ n ∈ z0, (Lit.int .u8 n).wf = true) (y0 : len0 * 1 ≤ 140737488351232) (hG : GOk w) :
  Calls Tryz.prog 8 #[.slice a0 len0 cap0] w fun e w' => e = .returned (.bool true) ∧ Below w.heap.size w w' := by
 obtain ⟨l0, rfl, hr0, hm0, hw0, hc0⟩ := ReadsInt.ofRowC w0
 obtain ⟨k, h⟩ := P l0 hm0 y0 hw0
 refine (laws_FnFullDir.calls k _ _ l0 true w (Kd.C_of_reads (d := (0 : Int)) (h1 := fun _ => rfl) hr0) hc0 h hG).mono ?_
 rintro e w' ⟨rfl, hd⟩
 exact ⟨rfl, hd⟩

end Go.Proofs.YtkcfmbggdkkfeaaGreatDoor.P
