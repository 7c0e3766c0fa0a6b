-- By this session's own program (wip/myprint.py) out of the translation; Lean checks it.
import Derived.Test.YtkcfmbggdkkfeaaGreatDoorPx0
import Derived.Test.YtkcfmbggdkkfeaaGreatDoorPx1
import Derived.Test.YtkcfmbggdkkfeaaGreatDoorPx2
import Derived.Test.YtkcfmbggdkkfeaaGreatDoorPx9
import Derived.Test.YtkcfmbggdkkfeaaGreatDoorPx11
import Derived.Test.YtkcfmbggdkkfeaaGreatDoorPx12
import Derived.Test.YtkcfmbggdkkfeaaGreatDoorPx13
import Derived.Test.YtkcfmbggdkkfeaaGreatDoorPx14
import Derived.Test.YtkcfmbggdkkfeaaGreatDoorPx15
import Derived.Test.YtkcfmbggdkkfeaaGreatDoorPx16
namespace Go.Proofs.YtkcfmbggdkkfeaaGreatDoor.P
open Go.RowKit Go.Proofs.YtkcfmbggdkkfeaaGreatDoorW.PrintWords Go.Proofs.YtkcfmbggdkkfeaaGreatDoorW.PrintLast Go.Proofs.YtkcfmbggdkkfeaaGreatDoorW.PrintMore
attribute [local go_sem] max2_int min2_int max_two min_two max_three min_three max_four min_four   -- for this text's walks alone
set_option linter.unusedVariables false
set_option linter.unusedSimpArgs false

/-! ### laws_FnKinds: function 10 -/
def laws_FnKinds.f (k : Nat) (l0 : List Int) : Option (Bool) := (laws_big.f l0).bind fun t662 => (if t662 = true then (some true) else ((laws_grown.f k l0).bind fun bt663 => ((impl_List.f k bt663.1 bt663.2.1 (⟨#[47, 116, 111, 112]⟩ : ByteArray)).bind fun bt669 => ((impl_ReadFile.f k bt663.1 bt663.2.1 (⟨#[47, 100, 105, 114]⟩ : ByteArray) 0 1).bind fun bt673 => ((impl_Unlink.f k bt663.1 bt663.2.1 (⟨#[47, 100, 105, 114]⟩ : ByteArray)).bind fun bt677 => ((impl_RemoveDir.f k bt663.1 bt663.2.1 (⟨#[47, 116, 111, 112]⟩ : ByteArray)).bind fun bt683 => ((laws_slash.f l0 4).bind fun t689 => (if 4 + t689.size ≤ 9223372036854775807 then ((impl_MakeFile.f k bt663.1 bt663.2.1 ((⟨#[47, 116, 111, 112]⟩ : ByteArray) ++ t689)).bind fun bt690 => ((impl_WriteAt.f k bt663.1 bt663.2.1 (⟨#[47, 100, 105, 114]⟩ : ByteArray) 0 (([1] : List Int))).bind fun bt699 => ((impl_HardLink.f k bt663.1 bt663.2.1 (⟨#[47, 100, 105, 114]⟩ : ByteArray) (⟨#[47, 100, 105, 114, 50]⟩ : ByteArray)).bind fun bt705 => ((laws_slash.f l0 5).bind fun t711 => (if 4 + t711.size ≤ 9223372036854775807 then ((impl_Walk.f k bt663.1 bt663.2.1 ((⟨#[47, 116, 111, 112]⟩ : ByteArray) ++ t711)).bind fun bt712 => (if bt663.2.2 = true then (if bt669.2 = 3 then (if bt673.2 = 3 then (if bt677.2.2 = 3 then (if bt683.2.2 = 3 then (if bt690.2.2 = 3 then (if bt699.2.2 = 3 then (if bt705.2.2 = 3 then (some (bt712.2 == 3)) else (none)) else (none)) else (none)) else (none)) else (none)) else (none)) else (none)) else (none))) else (none)))))) else (none)))))))))
def laws_FnKinds.T8 : Bool × List (List Nat × List Nat) := (true, [([], []), ([], []), ([1], [1]), ([2], [2]), ([0, 3, 2], [0, 3]), ([4], [4]), ([5], [5]), ([5], [5]), ([], []), ([8, 6, 4, 0, 1, 2, 3, 4, 5, 6, 8], [6, 8]), ([7, 9, 0, 1, 2, 3, 4, 5, 6, 7, 8, 9], [7])])
def laws_FnKinds.B8 : List Nat := [0, 0, 2, 6, 15, 31, 63, 63, 0, 383, 1023]
theorem laws_FnKinds.tab8 : rtab .any (opsOf Tryz.f10 8) = laws_FnKinds.T8 := by kernel_rfl
theorem laws_FnKinds.bits8 : waitsOk laws_FnKinds.T8.2 laws_FnKinds.B8 = true := by kernel_rfl
def laws_FnKinds.T11 : Bool × List (List Nat × List Nat) := (true, [([], []), ([], []), ([1], [1]), ([2], [2]), ([0, 3, 2], [0, 3]), ([4], [4]), ([5], [5]), ([5], [5]), ([6, 4, 0, 1, 2, 3, 4, 5, 6], [6]), ([7, 8, 0, 1, 2, 3, 4, 5, 6, 7, 8], [7])])
def laws_FnKinds.B11 : List Nat := [0, 0, 2, 6, 15, 31, 63, 63, 127, 511]
theorem laws_FnKinds.tab11 : rtab .any (opsOf Tryz.f10 11) = laws_FnKinds.T11 := by kernel_rfl
theorem laws_FnKinds.bits11 : waitsOk laws_FnKinds.T11.2 laws_FnKinds.B11 = true := by kernel_rfl
set_option maxHeartbeats 8000000 in
set_option maxRecDepth 100000 in
theorem laws_FnKinds.calls (k : Nat) (A0 : Option Addr) (c0 : Nat) (l0 : List Int) (r : Bool) (w : World) (hr0 : Kd.C (Kd.int .u8) w A0 l0.length l0) (hc0 : l0.length ≤ c0) (h : laws_FnKinds.f k l0 = some r) (hG : GOk w := by exact gk_ oB (by first | (with_reducible assumption) | assumption)) :
  Calls Tryz.prog 10 #[.slice A0 l0.length c0] w fun e w' => e = .returned (.bool r) ∧ Below w.heap.size w w' := by
 have HG := Aside0.mk hG
 clear hG
 have hu26 := Tryz.underlying26
 have HR0 := Aside0.mk hr0
 have HC0 := Aside0.mk hc0
 clear hr0 hc0
 have HB := Aside0.mk (Below.refl w.heap.size w)
 unfold laws_FnKinds.f at h
 have H := h
 clear h
 replace H := bA H
 obtain ⟨t662, A2, H⟩ := H
 try dsimp only at H
 replace H := itB H
 rcases H with ⟨rfl, H⟩ | ⟨rfl, H⟩
 ·obtain rfl := Option.some.inj H
  go_enter Tryz.func10, Tryz.ntmps10
  go_wp2_with (first | ((with_reducible refine gate_callee (f := 11) rfl ?_); refine gl_ 22 Tryz.func11 (laws_big.calls _ _ l0 true _ (kD HR0) HC0.out A2.out) ?_; rintro e w' ⟨rfl, ⟨nd, rfl⟩⟩; refine ⟨_, rfl, ?_⟩))
  go_ret
  exact ⟨oE, oB⟩
 ·replace H := bA H
  obtain ⟨⟨t663, t666, t667⟩, A4, H⟩ := H
  try dsimp only at H
  replace H := bA H
  obtain ⟨⟨t669, t672⟩, A5, H⟩ := H
  try dsimp only at H
  replace H := bA H
  obtain ⟨⟨t673, t676⟩, A6, H⟩ := H
  try dsimp only at H
  replace H := bA H
  obtain ⟨⟨t677, t680, t681⟩, A7, H⟩ := H
  try dsimp only at H
  replace H := bA H
  obtain ⟨⟨t683, t686, t687⟩, A8, H⟩ := H
  try dsimp only at H
  replace H := bA H
  obtain ⟨t689, A9, H⟩ := H
  try dsimp only at H
  by_cases c10 : 4 + t689.size ≤ 9223372036854775807
  ·rw [if_pos c10] at H
   have c10b0 := eq_true c10
   have c10b1 : decide (4 + t689.size ≤ 9223372036854775807) = true := decide_eq_true c10
   try have c10b2 : (9223372036854775807 < 4 + t689.size) = False := eq_false (Nat.not_lt.2 c10)
   replace H := bA H
   obtain ⟨⟨t690, t693, t694⟩, A11, H⟩ := H
   try dsimp only at H
   obtain ⟨y696, hy696⟩ : ∃ y_ : List Int, y_ = (([1] : List Int)) := ⟨_, rfl⟩
   replace H : ((impl_WriteAt.f k t663 t666 (⟨#[47, 100, 105, 114]⟩ : ByteArray) 0 y696).bind fun bt699 => ((impl_HardLink.f k t663 t666 (⟨#[47, 100, 105, 114]⟩ : ByteArray) (⟨#[47, 100, 105, 114, 50]⟩ : ByteArray)).bind fun bt705 => ((laws_slash.f l0 5).bind fun t711 => (if 4 + t711.size ≤ 9223372036854775807 then ((impl_Walk.f k t663 t666 ((⟨#[47, 116, 111, 112]⟩ : ByteArray) ++ t711)).bind fun bt712 => (if t667 = true then (if t672 = 3 then (if t676 = 3 then (if t681 = 3 then (if t687 = 3 then (if t694 = 3 then (if bt699.2.2 = 3 then (if bt705.2.2 = 3 then (some (bt712.2 == 3)) else (none)) else (none)) else (none)) else (none)) else (none)) else (none)) else (none)) else (none))) else (none))))) = some r := by first | (rw [hy696]; with_reducible exact H) | (have H2_ := (Option.bind_some _ _).symm.trans H; rw [hy696]; with_reducible exact H2_) | (have H2_ := (Option.bind_some _ _).symm.trans H; with_reducible exact H2_) | with_reducible exact H | (rw [hy696]; exact H) | exact H
   have Ny696 := Aside0.mk hy696
   clear hy696
   replace H := bA H
   obtain ⟨⟨t699, t702, t703⟩, A12, H⟩ := H
   try dsimp only at H
   replace H := bA H
   obtain ⟨⟨t705, t708, t709⟩, A13, H⟩ := H
   try dsimp only at H
   replace H := bA H
   obtain ⟨t711, A14, H⟩ := H
   try dsimp only at H
   by_cases c15 : 4 + t711.size ≤ 9223372036854775807
   ·rw [if_pos c15] at H
    have c15b0 := eq_true c15
    have c15b1 : decide (4 + t711.size ≤ 9223372036854775807) = true := decide_eq_true c15
    try have c15b2 : (9223372036854775807 < 4 + t711.size) = False := eq_false (Nat.not_lt.2 c15)
    replace H := bA H
    obtain ⟨⟨t712, t713⟩, A16, H⟩ := H
    try dsimp only at H
    replace H := itB H
    rcases H with ⟨rfl, H⟩ | ⟨rfl, H⟩
    ·by_cases c18 : t672 = 3
     ·rw [if_pos c18] at H
      have c18b0 : (t672 == 3) = true := beq_iff_eq.mpr c18
      have c18b1 : (t672 != 3) = false := bne_eq_false_iff_eq.mpr c18
      clear c18
      by_cases c19 : t676 = 3
      ·rw [if_pos c19] at H
       have c19b0 : (t676 == 3) = true := beq_iff_eq.mpr c19
       have c19b1 : (t676 != 3) = false := bne_eq_false_iff_eq.mpr c19
       clear c19
       by_cases c20 : t681 = 3
       ·rw [if_pos c20] at H
        have c20b0 : (t681 == 3) = true := beq_iff_eq.mpr c20
        have c20b1 : (t681 != 3) = false := bne_eq_false_iff_eq.mpr c20
        clear c20
        by_cases c21 : t687 = 3
        ·rw [if_pos c21] at H
         have c21b0 : (t687 == 3) = true := beq_iff_eq.mpr c21
         have c21b1 : (t687 != 3) = false := bne_eq_false_iff_eq.mpr c21
         clear c21
         by_cases c22 : t694 = 3
         ·rw [if_pos c22] at H
          have c22b0 : (t694 == 3) = true := beq_iff_eq.mpr c22
          have c22b1 : (t694 != 3) = false := bne_eq_false_iff_eq.mpr c22
          clear c22
          by_cases c23 : t703 = 3
          ·rw [if_pos c23] at H
           have c23b0 : (t703 == 3) = true := beq_iff_eq.mpr c23
           have c23b1 : (t703 != 3) = false := bne_eq_false_iff_eq.mpr c23
           clear c23
           by_cases c24 : t709 = 3
           ·rw [if_pos c24] at H
            have c24b0 : (t709 == 3) = true := beq_iff_eq.mpr c24
            have c24b1 : (t709 != 3) = false := bne_eq_false_iff_eq.mpr c24
            clear c24
            obtain rfl := Option.some.inj H
            go_enter Tryz.func10, Tryz.ntmps10
            try go_wp2_with (first | ((with_reducible refine gate_callee (f := 11) rfl ?_); refine gl_ 22 Tryz.func11 (laws_big.calls _ _ l0 false _ (kD HR0) HC0.out A2.out) ?_; rintro e w' ⟨rfl, ⟨nd, rfl⟩⟩; refine ⟨_, rfl, ?_⟩) | ((with_reducible refine gate_callee (f := 21) rfl ?_); refine gl_ 25 Tryz.func21 (laws_grown.calls k _ _ l0 t663 t666 true _ (kD HR0) HC0.out A4.out) ?_; rintro e w25 ⟨v664, rfl, ho0, hb⟩; refine ⟨_, rfl, ?_⟩; have HO665 := Aside0.mk (Kd.S_lower ho0 (below_size oB)); replace HB := Aside0.mk (below_step oB hb)) | ((with_reducible refine gate_dst (N := 3) rfl ?_); refine bx_ 3 #[.slice none 0 0, .int .i64 0] 26 ?_; intro gb668 hg w26 hbox hb; have BK668 := Aside0.mk (hbox); have GW668 := gs_ hg; replace HO665 := beS0 HO665 hb; replace HB := Aside0.mk (below_step oB hb); clear hb hbox hg; obtain ⟨Ao27, co27, eo27⟩ := Kd.S_slice HO665.out; subst eo27; obtain ⟨⟨_, _⟩, _, _⟩ := z2 BK668) | ((with_reducible refine gate_callee (f := 33) rfl ?_); refine gl_ 30 Tryz.func33 (impl_List.calls k _ _ t663 t666 (⟨#[47, 116, 111, 112]⟩ : ByteArray) t669 t672 _ (rcS1 HO665 BK668) (rnS HO665) A5.out) ?_; rintro e w29 ⟨v670, rfl, ho0, hb⟩; refine ⟨_, rfl, ?_⟩; have HO671 := Aside0.mk (Kd.R_lower ho0 (below_size oB)); replace HO665 := beS1 HO665 BK668 hb; replace BK668 := kp_ #[.slice Ao27 t663.length co27, .int .i64 t666] BK668 hb; replace HB := Aside0.mk (below_step oB hb); (try clear hk); obtain ⟨⟨_, _⟩, _, _⟩ := z2 BK668) | ((with_reducible refine gate_callee (f := 23) rfl ?_); refine gl_ 35 Tryz.func23 (impl_ReadFile.calls k _ _ t663 t666 (⟨#[47, 100, 105, 114]⟩ : ByteArray) 0 1 t673 t676 _ (rcS0 HO665) (rnS HO665) A6.out) ?_; rintro e w31 ⟨v674, rfl, ho0, hb⟩; refine ⟨_, rfl, ?_⟩; have HO675 := Aside0.mk (Kd.R_lower ho0 (below_size oB)); replace HO665 := elS0 HO665 (Kd.R_base ho0) hb; replace BK668 := kb_ BK668 hb; replace HB := Aside0.mk (below_step oB hb); obtain ⟨⟨_, _⟩, _, _⟩ := z2 BK668) | ((with_reducible refine gate_callee (f := 29) rfl ?_); refine gl_ 40 Tryz.func29 (impl_Unlink.calls k _ _ t663 t666 (⟨#[47, 100, 105, 114]⟩ : ByteArray) t677 t680 t681 _ (rcS0 HO665) (rnS HO665) A7.out) ?_; rintro e w33 ⟨v678, rfl, ho0, hb⟩; refine ⟨_, rfl, ?_⟩; have HO679 := Aside0.mk (Kd.S_lower (Kd.S_new' ho0 (ltS0 HO665)) (below_size oB)); replace HO665 := elS0 HO665 (Kd.S_base ho0) hb; replace BK668 := kb_ BK668 hb; replace HB := Aside0.mk (below_step oB hb)) | ((with_reducible refine gate_dst (N := 9) rfl ?_); refine bx_ 9 #[.slice none 0 0, .int .i64 0] 26 ?_; intro gb682 hg w34 hbox hb; have BK682 := Aside0.mk (hbox); have GW682 := gs_ hg; have NB668_682 := nl_ hg BK668; have NB682_668 := nr_ hg BK668; replace HO665 := beS0 HO665 hb; replace HO679 := beS0 HO679 hb; replace BK668 := kb_ BK668 hb; replace HB := Aside0.mk (below_step oB hb); clear hb hbox hg; obtain ⟨Ao35, co35, eo35⟩ := Kd.S_slice HO679.out; subst eo35; have hnb36 := NB682_668.out; have hnc36 := NB668_682.out; obtain ⟨⟨_, _⟩, _, _⟩ := z2 BK682; obtain ⟨⟨_, _⟩, _, _⟩ := z2 BK668) | ((with_reducible refine gate_callee (f := 34) rfl ?_); refine gl_ 45 Tryz.func34 (impl_RemoveDir.calls k _ _ t663 t666 (⟨#[47, 116, 111, 112]⟩ : ByteArray) t683 t686 t687 _ (rcS1 HO665 BK682) (rnS HO665) A8.out) ?_; rintro e w39 ⟨v684, rfl, ho0, hb⟩; refine ⟨_, rfl, ?_⟩; have HO685 := Aside0.mk (Kd.S_lower (Kd.S_new' ho0 (ltS1 HO665 BK682)) (below_size oB)); replace HO665 := elS1 HO665 BK682 (Kd.S_base ho0) hb; replace BK668 := kb_ BK668 hb; replace BK682 := kp_ #[.slice Ao35 t677.length co35, .int .i64 t680] BK682 hb; replace HB := Aside0.mk (below_step oB hb); (try clear hk)) | ((with_reducible refine gate_dst (N := 11) rfl ?_); refine bx_ 11 #[.slice none 0 0, .int .i64 0] 26 ?_; intro gb688 hg w40 hbox hb; have BK688 := Aside0.mk (hbox); have GW688 := gs_ hg; have NB668_688 := nl_ hg BK668; have NB688_668 := nr_ hg BK668; have NB682_688 := nl_ hg BK682; have NB688_682 := nr_ hg BK682; replace HO665 := beS0 HO665 hb; replace HO685 := beS0 HO685 hb; replace BK668 := kb_ BK668 hb; replace BK682 := kb_ BK682 hb; replace HB := Aside0.mk (below_step oB hb); clear hb hbox hg; obtain ⟨Ao41, co41, eo41⟩ := Kd.S_slice HO685.out; subst eo41; have hnb42 := NB688_668.out; have hnc42 := NB668_688.out; have hnb43 := NB688_682.out; have hnc43 := NB682_688.out; obtain ⟨⟨_, _⟩, _, _⟩ := z2 BK688))
            have n0_ : Aside0 (Kd.S k51 51 ((w40.setCell ⟨gb688, 0, none⟩ (.slice Ao41 t683.length co41)).setCell ⟨gb688, 1, none⟩ (.int .i64 t686)) w.heap.size (fun _ => True) (.slice Ao27 t663.length co27) t663) := ⟨by (with_reducible repeat (first | apply Kd.S_alloc | apply Kd.S_drewN | apply Kd.S_drew)); exact Kd.S_mono (Kd.S_far (p := ⟨gb688, 1, none⟩) (Kd.S_far (p := ⟨gb688, 0, none⟩) (Kd.S_types HO665.out BK688.out (by decide)) (fun _ hk => hk.2) (.slice Ao41 t683.length co41)) (fun _ hk => hk.2) (.int .i64 t686)) (fun _ hk => trivial)⟩
            have n1_ : Aside0 (((w40.setCell ⟨gb688, 0, none⟩ (.slice Ao41 t683.length co41)).setCell ⟨gb688, 1, none⟩ (.int .i64 t686)).heap[gb668]? = some (.cells #[.slice Ao27 t663.length co27, .int .i64 t666] 26 (0, 0))) := ⟨oF BK668⟩
            have n2_ : Aside0 (((w40.setCell ⟨gb688, 0, none⟩ (.slice Ao41 t683.length co41)).setCell ⟨gb688, 1, none⟩ (.int .i64 t686)).heap[gb682]? = some (.cells #[.slice Ao35 t677.length co35, .int .i64 t680] 26 (0, 0))) := ⟨oF BK682⟩
            have n3_ : Aside0 (((w40.setCell ⟨gb688, 0, none⟩ (.slice Ao41 t683.length co41)).setCell ⟨gb688, 1, none⟩ (.int .i64 t686)).heap[gb688]? = some (.cells #[.slice Ao41 t683.length co41, .int .i64 t686] 26 (0, 0))) := ⟨oP BK688⟩
            have n4_ : Aside0 (Below w.heap.size w ((w40.setCell ⟨gb688, 0, none⟩ (.slice Ao41 t683.length co41)).setCell ⟨gb688, 1, none⟩ (.int .i64 t686))) := ⟨oB⟩
            (try clear HO665)
            (try clear BK668)
            (try clear BK682)
            (try clear BK688)
            (try clear HB)
            generalize ((w40.setCell ⟨gb688, 0, none⟩ (.slice Ao41 t683.length co41)).setCell ⟨gb688, 1, none⟩ (.int .i64 t686)) = w45 at n0_ n1_ n2_ n3_ n4_ ⊢
            have HO665 := n0_
            have BK668 := n1_
            have BK682 := n2_
            have BK688 := n3_
            have HB := n4_
            clear n0_ n1_ n2_ n3_ n4_
            replace HO665 := Aside0.mk (Kd.S_drew HO665.out)
            replace BK668 := Aside0.mk (blk_drew BK668.out)
            replace BK682 := Aside0.mk (blk_drew BK682.out)
            replace BK688 := Aside0.mk (blk_drew BK688.out)
            replace HB := Aside0.mk (below_drew1 HB.out)
            refine st_ 11 (fun w' => w'.cell? ⟨gb668, 0, none⟩ = some (.slice Ao27 t663.length co27) ∧ w'.cell? ⟨gb668, 1, none⟩ = some (.int .i64 t666)) laws_FnKinds.tab8 laws_FnKinds.bits8 oH (fun hHeld HT_ HW_ => ?_)
            generalize w45.drew = w46 at HO665 BK668 BK682 BK688 HB hHeld ⊢
            refine pu_ 1 50 HT_ ?_
            refine ta_ 0 49 HT_ HW_ hHeld ?_
            refine join_ (σ := Value × Nat) 2 (lb 11 511) (fun s_ => [(51, .string t689), (53, .tuple #[.agg #[s_.1, .int .i64 t693], .int .i64 t694]), (13, .pointer (some ⟨s_.2, 0, none⟩)), (52, .string ((⟨#[47, 116, 111, 112]⟩ : ByteArray) ++ t689)), (48, .tuple #[.agg #[s_.1, .int .i64 t693], .int .i64 t694]), (54, .agg #[s_.1, .int .i64 t693]), (55, .int .i64 t694)]) (fun s_ w' => (w'.cell? ⟨gb668, 0, none⟩ = some (.slice Ao27 t663.length co27) ∧ w'.cell? ⟨gb668, 1, none⟩ = some (.int .i64 t666)) ∧ (Kd.S k51 51 w' w.heap.size (fun k_ => some k_ ≠ (s_.1 : Value).ownBlock) (.slice Ao27 t663.length co27) t663) ∧ (Kd.S k51 51 w' w.heap.size (fun k_ => some k_ ≠ (.slice Ao27 t663.length co27 : Value).ownBlock) s_.1 t690) ∧ (w'.heap[gb668]? = some (.cells #[.slice Ao27 t663.length co27, .int .i64 t666] 26 (0, 0))) ∧ (w'.heap[gb682]? = some (.cells #[.slice Ao35 t677.length co35, .int .i64 t680] 26 (0, 0))) ∧ (w'.heap[gb688]? = some (.cells #[.slice Ao41 t683.length co41, .int .i64 t686] 26 (0, 0))) ∧ (w'.heap[s_.2]? = some (.cells #[.slice none 0 0, .int .i64 0] 26 (0, 0))) ∧ (w.heap.size ≤ s_.2) ∧ (w.heap.size ≤ s_.2) ∧ (gb668 ≠ s_.2) ∧ (s_.2 ≠ gb668) ∧ (gb682 ≠ s_.2) ∧ (s_.2 ≠ gb682) ∧ (gb688 ≠ s_.2) ∧ (s_.2 ≠ gb688) ∧ (Below w.heap.size w w')) ?_ ?_
            rotate_left
            ·intro hCont
             refine two_ (i := 2) (j := 8) (Ni := some 51) (Nj := some 13) (lb 11 7) (lb 11 259) rfl rfl rfl rfl (two_of HT_.out (by kernel_rfl)) (by decide) (by decide) (fun K hK => ?_) (fun K hK => ?_)
             ·skip
              refine gr_ 51 Tryz.func13 (laws_slash.calls _ _ l0 4 t689 _ (kC HR0) HC0.out A9.out) ?_
              rintro e w47 ⟨rfl, hb⟩
              refine ⟨_, rfl, ?_⟩
              replace HO665 := beS0 HO665 hb
              replace BK668 := kb_ BK668 hb
              replace BK682 := kb_ BK682 hb
              replace BK688 := kb_ BK688 hb
              replace HB := Aside0.mk (below_step oB hb)
              refine hk_ hK 51 oH (fun hHeld => ?_)
              clear hK K
              refine pu_ 3 52 HT_ ?_
              refine two_ (i := 4) (j := 8) (Ni := some 53) (Nj := some 13) (lb 11 31) (lb 11 271) rfl rfl rfl rfl (two_of HT_.out (by kernel_rfl)) (by decide) (by decide) (fun K hK => ?_) (fun K hK => ?_)
              ·skip
               refine gr_ 53 Tryz.func15 (impl_MakeFile.calls k _ _ t663 t666 ((⟨#[47, 116, 111, 112]⟩ : ByteArray) ++ t689) t690 t693 t694 _ (rcS0 HO665) (rnS HO665) A11.out) ?_
               rintro e w48 ⟨v691, rfl, ho0, hb⟩
               refine ⟨_, rfl, ?_⟩
               have HO692 := Aside0.mk (Kd.S_lower (Kd.S_new' ho0 (ltS0 HO665)) (below_size oB))
               replace HO665 := elS0 HO665 (Kd.S_base ho0) hb
               replace BK668 := kb_ BK668 hb
               replace BK682 := kb_ BK682 hb
               replace BK688 := kb_ BK688 hb
               replace HB := Aside0.mk (below_step oB hb)
               refine hk_ hK 53 oH (fun hHeld => ?_)
               clear hK K
               refine pu_ 5 48 HT_ ?_
               refine pu_ 6 54 HT_ ?_
               refine pu_ 7 55 HT_ ?_
               refine on_ 8 13 HT_ (fun K hK => ?_)
               refine box_step ?hg (N := 13) ?hd (cs := #[.slice none 0 0, .int .i64 0]) (t := 26) ?hr ?_; (case hd => rfl); (case hg => rfl); (case hr => first | (go_simp; done) | (go_simp; rfl))
               intro gb695 hg w49 hbox hb
               have BK695 := Aside0.mk (hbox)
               have GW695 := gs_ hg
               have GE695 := gs_ hg
               have NB668_695 := nl_ hg BK668
               have NB695_668 := nr_ hg BK668
               have NB682_695 := nl_ hg BK682
               have NB695_682 := nr_ hg BK682
               have NB688_695 := nl_ hg BK688
               have NB695_688 := nr_ hg BK688
               replace HO665 := beS0 HO665 hb
               replace HO692 := beS0 HO692 hb
               replace BK668 := kb_ BK668 hb
               replace BK682 := kb_ BK682 hb
               replace BK688 := kb_ BK688 hb
               replace HB := Aside0.mk (below_step oB hb)
               clear hb hbox hg
               refine hk_ hK 13 oH (fun hHeld => ?_)
               clear hK K
               exact norm_ (by simp only [putAll, Act.put, List.setIfInBounds_toArray, List.set_cons_zero, List.set_cons_succ]) (hCont (v691, gb695) _ ⟨hHeld, (by (with_reducible repeat (first | apply Kd.S_alloc | apply Kd.S_drewN | apply Kd.S_drew)); exact Kd.S_mono HO665.out (fun _ hk => hk.2)), (by (with_reducible repeat (first | apply Kd.S_alloc | apply Kd.S_drewN | apply Kd.S_drew)); exact Kd.S_mono HO692.out (fun _ hk => hk.2)), (oF BK668), (oF BK682), (oF BK688), (oF BK695), GW695.out, GE695.out, NB668_695.out, NB695_668.out, NB682_695.out, NB695_682.out, NB688_695.out, NB695_688.out, oB⟩)
              ·skip
               refine box_step ?hg (N := 13) ?hd (cs := #[.slice none 0 0, .int .i64 0]) (t := 26) ?hr ?_; (case hd => rfl); (case hg => rfl); (case hr => first | (go_simp; done) | (go_simp; rfl))
               intro gb695 hg w48 hbox hb
               have BK695 := Aside0.mk (hbox)
               have GW695 := gs_ hg
               have GE695 := gs_ hg
               have NB668_695 := nl_ hg BK668
               have NB695_668 := nr_ hg BK668
               have NB682_695 := nl_ hg BK682
               have NB695_682 := nr_ hg BK682
               have NB688_695 := nl_ hg BK688
               have NB695_688 := nr_ hg BK688
               replace HO665 := beS0 HO665 hb
               replace BK668 := kb_ BK668 hb
               replace BK682 := kb_ BK682 hb
               replace BK688 := kb_ BK688 hb
               replace HB := Aside0.mk (below_step oB hb)
               clear hb hbox hg
               refine hk_ hK 13 oH (fun hHeld => ?_)
               clear hK K
               refine on_ 4 53 HT_ (fun K hK => ?_)
               refine gr_ 53 Tryz.func15 (impl_MakeFile.calls k _ _ t663 t666 ((⟨#[47, 116, 111, 112]⟩ : ByteArray) ++ t689) t690 t693 t694 _ (rcS0 HO665) (rnS HO665) A11.out) ?_
               rintro e w49 ⟨v691, rfl, ho0, hb⟩
               refine ⟨_, rfl, ?_⟩
               have HO692 := Aside0.mk (Kd.S_lower (Kd.S_new' ho0 (ltS0 HO665)) (below_size oB))
               replace HO665 := elS0 HO665 (Kd.S_base ho0) hb
               replace BK668 := kb_ BK668 hb
               replace BK682 := kb_ BK682 hb
               replace BK688 := kb_ BK688 hb
               replace BK695 := kb_ BK695 hb
               replace HB := Aside0.mk (below_step oB hb)
               refine hk_ hK 53 oH (fun hHeld => ?_)
               clear hK K
               refine pu_ 5 48 HT_ ?_
               refine pu_ 6 54 HT_ ?_
               refine pu_ 7 55 HT_ ?_
               exact norm_ (by simp only [putAll, Act.put, List.setIfInBounds_toArray, List.set_cons_zero, List.set_cons_succ]) (hCont (v691, gb695) _ ⟨hHeld, (by (with_reducible repeat (first | apply Kd.S_alloc | apply Kd.S_drewN | apply Kd.S_drew)); exact Kd.S_mono HO665.out (fun _ hk => hk.2)), (by (with_reducible repeat (first | apply Kd.S_alloc | apply Kd.S_drewN | apply Kd.S_drew)); exact Kd.S_mono HO692.out (fun _ hk => hk.2)), (oF BK668), (oF BK682), (oF BK688), (oF BK695), GW695.out, GE695.out, NB668_695.out, NB695_668.out, NB682_695.out, NB695_682.out, NB688_695.out, NB695_688.out, oB⟩)
             ·skip
              refine box_step ?hg (N := 13) ?hd (cs := #[.slice none 0 0, .int .i64 0]) (t := 26) ?hr ?_; (case hd => rfl); (case hg => rfl); (case hr => first | (go_simp; done) | (go_simp; rfl))
              intro gb695 hg w47 hbox hb
              have BK695 := Aside0.mk (hbox)
              have GW695 := gs_ hg
              have GE695 := gs_ hg
              have NB668_695 := nl_ hg BK668
              have NB695_668 := nr_ hg BK668
              have NB682_695 := nl_ hg BK682
              have NB695_682 := nr_ hg BK682
              have NB688_695 := nl_ hg BK688
              have NB695_688 := nr_ hg BK688
              replace HO665 := beS0 HO665 hb
              replace BK668 := kb_ BK668 hb
              replace BK682 := kb_ BK682 hb
              replace BK688 := kb_ BK688 hb
              replace HB := Aside0.mk (below_step oB hb)
              clear hb hbox hg
              refine hk_ hK 13 oH (fun hHeld => ?_)
              clear hK K
              refine on_ 2 51 HT_ (fun K hK => ?_)
              refine gr_ 51 Tryz.func13 (laws_slash.calls _ _ l0 4 t689 _ (kC HR0) HC0.out A9.out) ?_
              rintro e w48 ⟨rfl, hb⟩
              refine ⟨_, rfl, ?_⟩
              replace HO665 := beS0 HO665 hb
              replace BK668 := kb_ BK668 hb
              replace BK682 := kb_ BK682 hb
              replace BK688 := kb_ BK688 hb
              replace BK695 := kb_ BK695 hb
              replace HB := Aside0.mk (below_step oB hb)
              refine hk_ hK 51 oH (fun hHeld => ?_)
              clear hK K
              refine pu_ 3 52 HT_ ?_
              refine on_ 4 53 HT_ (fun K hK => ?_)
              refine gr_ 53 Tryz.func15 (impl_MakeFile.calls k _ _ t663 t666 ((⟨#[47, 116, 111, 112]⟩ : ByteArray) ++ t689) t690 t693 t694 _ (rcS0 HO665) (rnS HO665) A11.out) ?_
              rintro e w49 ⟨v691, rfl, ho0, hb⟩
              refine ⟨_, rfl, ?_⟩
              have HO692 := Aside0.mk (Kd.S_lower (Kd.S_new' ho0 (ltS0 HO665)) (below_size oB))
              replace HO665 := elS0 HO665 (Kd.S_base ho0) hb
              replace BK668 := kb_ BK668 hb
              replace BK682 := kb_ BK682 hb
              replace BK688 := kb_ BK688 hb
              replace BK695 := kb_ BK695 hb
              replace HB := Aside0.mk (below_step oB hb)
              refine hk_ hK 53 oH (fun hHeld => ?_)
              clear hK K
              refine pu_ 5 48 HT_ ?_
              refine pu_ 6 54 HT_ ?_
              refine pu_ 7 55 HT_ ?_
              exact norm_ (by simp only [putAll, Act.put, List.setIfInBounds_toArray, List.set_cons_zero, List.set_cons_succ]) (hCont (v691, gb695) _ ⟨hHeld, (by (with_reducible repeat (first | apply Kd.S_alloc | apply Kd.S_drewN | apply Kd.S_drew)); exact Kd.S_mono HO665.out (fun _ hk => hk.2)), (by (with_reducible repeat (first | apply Kd.S_alloc | apply Kd.S_drewN | apply Kd.S_drew)); exact Kd.S_mono HO692.out (fun _ hk => hk.2)), (oF BK668), (oF BK682), (oF BK688), (oF BK695), GW695.out, GE695.out, NB668_695.out, NB695_668.out, NB682_695.out, NB695_682.out, NB688_695.out, NB695_688.out, oB⟩)
            rintro ⟨v691, gb695⟩ w50 ⟨hS_, h0_, h1_, h2_, h3_, h4_, h5_, h6_, h7_, h8_, h9_, h10_, h11_, h12_, h13_, h14_⟩
            have n0_ : Aside0 (Kd.S k51 51 w50 w.heap.size (fun k_ => some k_ ≠ (v691 : Value).ownBlock) (.slice Ao27 t663.length co27) t663) := ⟨h0_⟩
            have n1_ : Aside0 (Kd.S k51 51 w50 w.heap.size (fun k_ => some k_ ≠ (.slice Ao27 t663.length co27 : Value).ownBlock) v691 t690) := ⟨h1_⟩
            have n2_ : Aside0 (w50.heap[gb668]? = some (.cells #[.slice Ao27 t663.length co27, .int .i64 t666] 26 (0, 0))) := ⟨h2_⟩
            have n3_ : Aside0 (w50.heap[gb682]? = some (.cells #[.slice Ao35 t677.length co35, .int .i64 t680] 26 (0, 0))) := ⟨h3_⟩
            have n4_ : Aside0 (w50.heap[gb688]? = some (.cells #[.slice Ao41 t683.length co41, .int .i64 t686] 26 (0, 0))) := ⟨h4_⟩
            have n5_ : Aside0 (w50.heap[gb695]? = some (.cells #[.slice none 0 0, .int .i64 0] 26 (0, 0))) := ⟨h5_⟩
            have n6_ : Aside0 (w.heap.size ≤ gb695) := ⟨h6_⟩
            have n7_ : Aside0 (w.heap.size ≤ gb695) := ⟨h7_⟩
            have n8_ : Aside0 (gb668 ≠ gb695) := ⟨h8_⟩
            have n9_ : Aside0 (gb695 ≠ gb668) := ⟨h9_⟩
            have n10_ : Aside0 (gb682 ≠ gb695) := ⟨h10_⟩
            have n11_ : Aside0 (gb695 ≠ gb682) := ⟨h11_⟩
            have n12_ : Aside0 (gb688 ≠ gb695) := ⟨h12_⟩
            have n13_ : Aside0 (gb695 ≠ gb688) := ⟨h13_⟩
            have n14_ : Aside0 (Below w.heap.size w w50) := ⟨h14_⟩
            clear HO665
            clear BK668
            clear BK682
            clear BK688
            clear HB
            clear h0_ h1_ h2_ h3_ h4_ h5_ h6_ h7_ h8_ h9_ h10_ h11_ h12_ h13_ h14_
            have HO665 := n0_
            have HO692 := n1_
            have BK668 := n2_
            have BK682 := n3_
            have BK688 := n4_
            have BK695 := n5_
            have GW695 := n6_
            have GE695 := n7_
            have NB668_695 := n8_
            have NB695_668 := n9_
            have NB682_695 := n10_
            have NB695_682 := n11_
            have NB688_695 := n12_
            have NB695_688 := n13_
            have HB := n14_
            clear n0_ n1_ n2_ n3_ n4_ n5_ n6_ n7_ n8_ n9_ n10_ n11_ n12_ n13_ n14_
            have hHeld : w50.cell? ⟨gb668, 0, none⟩ = some (.slice Ao27 t663.length co27) ∧ w50.cell? ⟨gb668, 1, none⟩ = some (.int .i64 t666) := hS_
            obtain ⟨Ao51, co51, eo51⟩ := Kd.S_slice HO692.out
            (first | subst eo51 | (injection eo51 with f1_ f2_ f3_; have f4_ := f1_.symm; have f5_ := f3_.symm; clear f1_ f2_ f3_; subst f4_; subst f5_))
            refine norm_ (a' := ?_) ?_ ?_
            rotate_left
            ·simp only [putAll, Act.put, List.setIfInBounds_toArray, List.set_cons_zero, List.set_cons_succ]
             rfl
            refine one_ (i := 9) (N := none) (lb 11 1023) rfl rfl (one_of HT_.out (by kernel_rfl)) (by decide) (fun K hK => ?_)
            have hs52 : w50.cell? ⟨gb695, 0, none⟩ = some (.slice none 0 0) := (blk_cell BK695.out 0).trans rfl
            have hfs52 := blk_frozen BK695.out 0
            have hns52_0 := NB668_695.out
            have hns52_1 := NB682_695.out
            have hns52_2 := NB688_695.out
            have hms52_0 := NB695_668.out
            have hms52_1 := NB695_682.out
            have hms52_2 := NB695_688.out
            have hs53 : w50.cell? ⟨gb695, 1, none⟩ = some (.int .i64 0) := (blk_cell BK695.out 1).trans rfl
            have hfs53 := blk_frozen BK695.out 1
            have hns53_0 := NB668_695.out
            have hns53_1 := NB682_695.out
            have hns53_2 := NB688_695.out
            have hms53_0 := NB695_668.out
            have hms53_1 := NB695_682.out
            have hms53_2 := NB695_688.out
            refine skip_ (w1 := ?_) (by rfl) rfl ?_ ?_
            rotate_left
            ·go_simp
             rfl
            refine hK.out _ _ ⟨((cell_far (p := ⟨gb695, _, none⟩) NB668_695.out _).trans (((cell_far (p := ⟨gb695, _, none⟩) NB668_695.out _).trans (hHeld.1)))), ((cell_far (p := ⟨gb695, _, none⟩) NB668_695.out _).trans (((cell_far (p := ⟨gb695, _, none⟩) NB668_695.out _).trans (hHeld.2))))⟩ (fun hHeld => ?_)
            clear hK K
            refine pu_ 10 14 HT_ ?_
            refine dn_ HT_ ?_
            have hnb54 := NB668_695.out
            have hnc54 := NB695_668.out
            obtain ⟨⟨_, _⟩, _, _⟩ := z2 BK668
            try go_wp2_with (first | ((with_reducible refine gate_dst (N := 58) rfl ?_); refine Kd.R_lit (Kd.int .u8) _ 5 ?hg (N := 58) ?hd (xs := ([1] : List Int)) (inner := [.int .u8 1]) (ok := fun _ => True) (okp := fun _ => True) ?hr ?hp (fun _ hk => hk) trivial (Below.refl _ _) (Nat.le_refl _) (by simp) ?_; (case hd => rfl); (case hg => rfl); (case hr => first | (go_simp; done) | (go_simp; rfl)); (case hp => exact (Reps.one (show Kd.M (Kd.int .u8) _ _ _ 1 [.int .u8 1] from rfl) (Reps.none _ _))); intro v697 w56 ho57 hb hg_ hnew_; clear hg_ hnew_; (first | rw [← Ny696.out] at ho57 | (simp only [Int.reduceToNat] at ho57; rw [← Ny696.out] at ho57)); have HO698 := Aside0.mk (Kd.R_lower ho57 (below_size oB)); replace HO665 := elS1 HO665 BK695 (Kd.R_base ho57) hb; replace BK668 := kb_ BK668 hb; replace BK682 := kb_ BK682 hb; replace BK688 := kb_ BK688 hb; replace BK695 := kp_ #[.slice Ao51 t690.length co51, .int .i64 t693] BK695 hb; replace HB := Aside0.mk (below_step oB hb); clear hb ho57; obtain ⟨Ao58, co58, eo58⟩ := Kd.R_slice HO698.out; subst eo58) | ((with_reducible refine gate_callee (f := 22) rfl ?_); refine gl_ 59 Tryz.func22 (impl_WriteAt.calls k _ _ t663 t666 (⟨#[47, 100, 105, 114]⟩ : ByteArray) 0 _ _ y696 t699 t702 t703 _ (rcS0 HO665) (rnS HO665) (kO HO698) (ko HO698) A12.out) ?_; rintro e w59 ⟨v700, rfl, ho0, hb⟩; refine ⟨_, rfl, ?_⟩; have HO701 := Aside0.mk (Kd.S_lower (Kd.S_new' (Kd.S_new' ho0 (ltS0 HO665)) (kl_ HO698)) (below_size oB)); replace HO665 := elS0 HO665 (Kd.S_base ho0) hb; replace HO698 := kr_ HO698 hb; replace BK668 := kb_ BK668 hb; replace BK682 := kb_ BK682 hb; replace BK688 := kb_ BK688 hb; replace BK695 := kb_ BK695 hb; replace HB := Aside0.mk (below_step oB hb)) | ((with_reducible refine gate_dst (N := 15) rfl ?_); refine bx_ 15 #[.slice none 0 0, .int .i64 0] 26 ?_; intro gb704 hg w60 hbox hb; have BK704 := Aside0.mk (hbox); have GW704 := gs_ hg; have NB668_704 := nl_ hg BK668; have NB704_668 := nr_ hg BK668; have NB682_704 := nl_ hg BK682; have NB704_682 := nr_ hg BK682; have NB688_704 := nl_ hg BK688; have NB704_688 := nr_ hg BK688; have NB695_704 := nl_ hg BK695; have NB704_695 := nr_ hg BK695; replace HO665 := beS0 HO665 hb; replace HO701 := beS0 HO701 hb; replace BK668 := kb_ BK668 hb; replace BK682 := kb_ BK682 hb; replace BK688 := kb_ BK688 hb; replace BK695 := kb_ BK695 hb; replace HB := Aside0.mk (below_step oB hb); clear hb hbox hg; obtain ⟨Ao61, co61, eo61⟩ := Kd.S_slice HO701.out; subst eo61; have hnb62 := NB704_668.out; have hnc62 := NB668_704.out; have hnb63 := NB704_682.out; have hnc63 := NB682_704.out; have hnb64 := NB704_688.out; have hnc64 := NB688_704.out; have hnb65 := NB704_695.out; have hnc65 := NB695_704.out; obtain ⟨⟨_, _⟩, _, _⟩ := z2 BK704; obtain ⟨⟨_, _⟩, _, _⟩ := z2 BK668) | ((with_reducible refine gate_callee (f := 27) rfl ?_); refine gl_ 64 Tryz.func27 (impl_HardLink.calls k _ _ t663 t666 (⟨#[47, 100, 105, 114]⟩ : ByteArray) (⟨#[47, 100, 105, 114, 50]⟩ : ByteArray) t705 t708 t709 _ (rcS1 HO665 BK704) (rnS HO665) A13.out) ?_; rintro e w68 ⟨v706, rfl, ho0, hb⟩; refine ⟨_, rfl, ?_⟩; have HO707 := Aside0.mk (Kd.S_lower (Kd.S_new' ho0 (ltS1 HO665 BK704)) (below_size oB)); replace HO665 := elS1 HO665 BK704 (Kd.S_base ho0) hb; replace BK668 := kb_ BK668 hb; replace BK682 := kb_ BK682 hb; replace BK688 := kb_ BK688 hb; replace BK695 := kb_ BK695 hb; replace BK704 := kp_ #[.slice Ao61 t699.length co61, .int .i64 t702] BK704 hb; replace HB := Aside0.mk (below_step oB hb); (try clear hk)) | ((with_reducible refine gate_dst (N := 17) rfl ?_); refine bx_ 17 #[.slice none 0 0, .int .i64 0] 26 ?_; intro gb710 hg w69 hbox hb; have BK710 := Aside0.mk (hbox); have GW710 := gs_ hg; have NB668_710 := nl_ hg BK668; have NB710_668 := nr_ hg BK668; have NB682_710 := nl_ hg BK682; have NB710_682 := nr_ hg BK682; have NB688_710 := nl_ hg BK688; have NB710_688 := nr_ hg BK688; have NB695_710 := nl_ hg BK695; have NB710_695 := nr_ hg BK695; have NB704_710 := nl_ hg BK704; have NB710_704 := nr_ hg BK704; replace HO665 := beS0 HO665 hb; replace HO707 := beS0 HO707 hb; replace BK668 := kb_ BK668 hb; replace BK682 := kb_ BK682 hb; replace BK688 := kb_ BK688 hb; replace BK695 := kb_ BK695 hb; replace BK704 := kb_ BK704 hb; replace HB := Aside0.mk (below_step oB hb); clear hb hbox hg; obtain ⟨Ao70, co70, eo70⟩ := Kd.S_slice HO707.out; subst eo70; have hnb71 := NB710_668.out; have hnc71 := NB668_710.out; have hnb72 := NB710_682.out; have hnc72 := NB682_710.out; have hnb73 := NB710_688.out; have hnc73 := NB688_710.out; have hnb74 := NB710_695.out; have hnc74 := NB695_710.out; have hnb75 := NB710_704.out; have hnc75 := NB704_710.out; obtain ⟨⟨_, _⟩, _, _⟩ := z2 BK710))
            have n0_ : Aside0 (Kd.S k51 51 ((w69.setCell ⟨gb710, 0, none⟩ (.slice Ao70 t705.length co70)).setCell ⟨gb710, 1, none⟩ (.int .i64 t708)) w.heap.size (fun _ => True) (.slice Ao27 t663.length co27) t663) := ⟨by (with_reducible repeat (first | apply Kd.S_alloc | apply Kd.S_drewN | apply Kd.S_drew)); exact Kd.S_mono (Kd.S_far (p := ⟨gb710, 1, none⟩) (Kd.S_far (p := ⟨gb710, 0, none⟩) (Kd.S_types HO665.out BK710.out (by decide)) (fun _ hk => hk.2) (.slice Ao70 t705.length co70)) (fun _ hk => hk.2) (.int .i64 t708)) (fun _ hk => trivial)⟩
            have n1_ : Aside0 (((w69.setCell ⟨gb710, 0, none⟩ (.slice Ao70 t705.length co70)).setCell ⟨gb710, 1, none⟩ (.int .i64 t708)).heap[gb668]? = some (.cells #[.slice Ao27 t663.length co27, .int .i64 t666] 26 (0, 0))) := ⟨oF BK668⟩
            have n2_ : Aside0 (((w69.setCell ⟨gb710, 0, none⟩ (.slice Ao70 t705.length co70)).setCell ⟨gb710, 1, none⟩ (.int .i64 t708)).heap[gb682]? = some (.cells #[.slice Ao35 t677.length co35, .int .i64 t680] 26 (0, 0))) := ⟨oF BK682⟩
            have n3_ : Aside0 (((w69.setCell ⟨gb710, 0, none⟩ (.slice Ao70 t705.length co70)).setCell ⟨gb710, 1, none⟩ (.int .i64 t708)).heap[gb688]? = some (.cells #[.slice Ao41 t683.length co41, .int .i64 t686] 26 (0, 0))) := ⟨oF BK688⟩
            have n4_ : Aside0 (((w69.setCell ⟨gb710, 0, none⟩ (.slice Ao70 t705.length co70)).setCell ⟨gb710, 1, none⟩ (.int .i64 t708)).heap[gb695]? = some (.cells #[.slice Ao51 t690.length co51, .int .i64 t693] 26 (0, 0))) := ⟨oF BK695⟩
            have n5_ : Aside0 (((w69.setCell ⟨gb710, 0, none⟩ (.slice Ao70 t705.length co70)).setCell ⟨gb710, 1, none⟩ (.int .i64 t708)).heap[gb704]? = some (.cells #[.slice Ao61 t699.length co61, .int .i64 t702] 26 (0, 0))) := ⟨oF BK704⟩
            have n6_ : Aside0 (((w69.setCell ⟨gb710, 0, none⟩ (.slice Ao70 t705.length co70)).setCell ⟨gb710, 1, none⟩ (.int .i64 t708)).heap[gb710]? = some (.cells #[.slice Ao70 t705.length co70, .int .i64 t708] 26 (0, 0))) := ⟨oP BK710⟩
            have n7_ : Aside0 (Below w.heap.size w ((w69.setCell ⟨gb710, 0, none⟩ (.slice Ao70 t705.length co70)).setCell ⟨gb710, 1, none⟩ (.int .i64 t708))) := ⟨oB⟩
            (try clear HO665)
            (try clear BK668)
            (try clear BK682)
            (try clear BK688)
            (try clear BK695)
            (try clear BK704)
            (try clear BK710)
            (try clear HB)
            generalize ((w69.setCell ⟨gb710, 0, none⟩ (.slice Ao70 t705.length co70)).setCell ⟨gb710, 1, none⟩ (.int .i64 t708)) = w77 at n0_ n1_ n2_ n3_ n4_ n5_ n6_ n7_ ⊢
            have HO665 := n0_
            have BK668 := n1_
            have BK682 := n2_
            have BK688 := n3_
            have BK695 := n4_
            have BK704 := n5_
            have BK710 := n6_
            have HB := n7_
            clear n0_ n1_ n2_ n3_ n4_ n5_ n6_ n7_
            replace HO665 := Aside0.mk (Kd.S_drew HO665.out)
            replace BK668 := Aside0.mk (blk_drew BK668.out)
            replace BK682 := Aside0.mk (blk_drew BK682.out)
            replace BK688 := Aside0.mk (blk_drew BK688.out)
            replace BK695 := Aside0.mk (blk_drew BK695.out)
            replace BK704 := Aside0.mk (blk_drew BK704.out)
            replace BK710 := Aside0.mk (blk_drew BK710.out)
            replace HB := Aside0.mk (below_drew1 HB.out)
            refine st_ 10 (fun w' => w'.cell? ⟨gb668, 0, none⟩ = some (.slice Ao27 t663.length co27) ∧ w'.cell? ⟨gb668, 1, none⟩ = some (.int .i64 t666)) laws_FnKinds.tab11 laws_FnKinds.bits11 oH (fun hHeld HT_ HW_ => ?_)
            generalize w77.drew = w78 at HO665 BK668 BK682 BK688 BK695 BK704 BK710 HB hHeld ⊢
            refine pu_ 1 69 HT_ ?_
            refine ta_ 0 68 HT_ HW_ hHeld ?_
            refine on_ 2 70 HT_ (fun K hK => ?_)
            refine gr_ 70 Tryz.func13 (laws_slash.calls _ _ l0 5 t711 _ (kC HR0) HC0.out A14.out) ?_
            rintro e w79 ⟨rfl, hb⟩
            refine ⟨_, rfl, ?_⟩
            replace HO665 := beS0 HO665 hb
            replace BK668 := kb_ BK668 hb
            replace BK682 := kb_ BK682 hb
            replace BK688 := kb_ BK688 hb
            replace BK695 := kb_ BK695 hb
            replace BK704 := kb_ BK704 hb
            replace BK710 := kb_ BK710 hb
            replace HB := Aside0.mk (below_step oB hb)
            refine hk_ hK 70 oH (fun hHeld => ?_)
            clear hK K
            refine pu_ 3 71 HT_ ?_
            refine on_ 4 72 HT_ (fun K hK => ?_)
            refine gr_ 72 Tryz.func31 (impl_Walk.calls k _ _ t663 t666 ((⟨#[47, 116, 111, 112]⟩ : ByteArray) ++ t711) t712 t713 _ (rcS0 HO665) (rnS HO665) A16.out) ?_
            rintro e w80 ⟨rfl, hb⟩
            refine ⟨_, rfl, ?_⟩
            replace HO665 := beS0 HO665 hb
            replace BK668 := kb_ BK668 hb
            replace BK682 := kb_ BK682 hb
            replace BK688 := kb_ BK688 hb
            replace BK695 := kb_ BK695 hb
            replace BK704 := kb_ BK704 hb
            replace BK710 := kb_ BK710 hb
            replace HB := Aside0.mk (below_step oB hb)
            refine hk_ hK 72 oH (fun hHeld => ?_)
            clear hK K
            refine pu_ 5 67 HT_ ?_
            refine pu_ 6 73 HT_ ?_
            refine pu_ 7 74 HT_ ?_
            refine pu_ 8 19 HT_ ?_
            refine pu_ 9 20 HT_ ?_
            refine dn_ HT_ ?_
            try go_wp2
            go_ret
            exact ⟨oE, oB⟩
           ·rw [if_neg c24] at H
            cases H
          ·rw [if_neg c23] at H
           cases H
         ·rw [if_neg c22] at H
          cases H
        ·rw [if_neg c21] at H
         cases H
       ·rw [if_neg c20] at H
        cases H
      ·rw [if_neg c19] at H
       cases H
     ·rw [if_neg c18] at H
      cases H
    ·cases H
   ·rw [if_neg c15] at H
    exact absurd H (by simp)
  ·rw [if_neg c10] at H
   exact absurd H (by simp)

/-- THE ONE PURE STATEMENT of laws_FnKinds: yours. -/
def laws_FnKinds.Pure : Prop := ∀ (l0 : List Int), l0.length ≤ maxLen → l0.length * 1 ≤ 140737488351232 → (∀ x ∈ l0, (Lit.int .u8 x).wf = true) → ∃ k, laws_FnKinds.f k l0 = some true
theorem laws_FnKinds.walk (P : laws_FnKinds.Pure) (a0 : Option Addr) (len0 cap0 : Nat) (z0 : List Int) (w : World) (w0 : (a0 = none ∧ len0 = 0 ∧ cap0 = 0 ∧ z0 = []) ∨ ∃ x, a0 = some x ∧ len0 ≤ cap0 ∧ cap0 ≤ maxLen ∧ z0.length = cap0 ∧ (∀ i, i < z0.length → w.cell? (x.add i) = some (.int .u8 (z0.getD i 0))) ∧ ∀ n ∈ z0, (Lit.int .u8 n).wf = true) (y0 : len0 * 1 ≤ 140737488351232) (hG : GOk w) :
  Calls Tryz.prog 10 #[.slice a0 len0 cap0] w fun e w' => e = .returned (.bool true) ∧ Below w.heap.size w w' := by
 obtain ⟨l0, rfl, hr0, hm0, hw0, hc0⟩ := ReadsInt.ofRowC w0
 obtain ⟨k, h⟩ := P l0 hm0 y0 hw0
 refine (laws_FnKinds.calls k _ _ l0 true w (Kd.C_of_reads (d := (0 : Int)) (h1 := fun _ => rfl) hr0) hc0 h hG).mono ?_
 rintro e w' ⟨rfl, hd⟩
 exact ⟨rfl, hd⟩

end Go.Proofs.YtkcfmbggdkkfeaaGreatDoor.P
