-- By this session's own program (wip/myprint.py) out of the translation; Lean checks it.
import Derived.Test.YtkcfmbggdkkfeaaGreatDoorPx0
import Derived.Test.YtkcfmbggdkkfeaaGreatDoorPx2
import Derived.Test.YtkcfmbggdkkfeaaGreatDoorPx3
import Derived.Test.YtkcfmbggdkkfeaaGreatDoorPx9
import Derived.Test.YtkcfmbggdkkfeaaGreatDoorPx12
import Derived.Test.YtkcfmbggdkkfeaaGreatDoorPx14
import Derived.Test.YtkcfmbggdkkfeaaGreatDoorPx16
namespace Go.Proofs.YtkcfmbggdkkfeaaGreatDoor.P
open Go.RowKit Go.Proofs.YtkcfmbggdkkfeaaGreatDoorW.PrintWords Go.Proofs.YtkcfmbggdkkfeaaGreatDoorW.PrintLast Go.Proofs.YtkcfmbggdkkfeaaGreatDoorW.PrintMore
attribute [local go_sem] max2_int min2_int max_two min_two max_three min_three max_four min_four   -- for this text's walks alone
set_option linter.unusedVariables false
set_option linter.unusedSimpArgs false

/-! ### laws_FnMovedTree: function 9 -/
def laws_FnMovedTree.f (k : Nat) (l0 : List Int) : Option (Bool) := (laws_big.f l0).bind fun t588 => (if t588 = true then (some true) else ((laws_grown.f k l0).bind fun bt589 => ((laws_at.f l0 4).bind fun t595 => ((some (([(wrap64 (97 + (Int.tmod t595 26))) % 256] : List Int) : List Int)).bind fun y596 => (if 2 + (strOfNums y596).size ≤ 9223372036854775807 then ((impl_ReadFile.f k bt589.1 bt589.2.1 (⟨#[47, 100, 105, 114, 47, 111, 110, 101]⟩ : ByteArray) 0 10).bind fun bt599 => ((impl_Rename.f k bt589.1 bt589.2.1 (⟨#[47, 100, 105, 114]⟩ : ByteArray) ((⟨#[47, 109]⟩ : ByteArray) ++ (strOfNums y596))).bind fun bt603 => (if ((⟨#[47, 109]⟩ : ByteArray) ++ (strOfNums y596)).size + 4 ≤ 9223372036854775807 then ((impl_ReadFile.f k bt603.1 bt603.2.1 (((⟨#[47, 109]⟩ : ByteArray) ++ (strOfNums y596)) ++ (⟨#[47, 111, 110, 101]⟩ : ByteArray)) 0 10).bind fun bt609 => ((impl_Walk.f k bt603.1 bt603.2.1 (⟨#[47, 100, 105, 114, 47, 111, 110, 101]⟩ : ByteArray)).bind fun bt613 => ((impl_Rename.f k bt589.1 bt589.2.1 (⟨#[47, 100, 105, 114]⟩ : ByteArray) (⟨#[47, 100, 105, 114, 47, 115, 117, 98]⟩ : ByteArray)).bind fun bt615 => ((impl_Rename.f k bt589.1 bt589.2.1 (⟨#[47, 100, 105, 114]⟩ : ByteArray) (⟨#[47, 100, 105, 114]⟩ : ByteArray)).bind fun bt621 => (if bt589.2.2 = true then (if bt599.2 = 0 then (if bt609.2 = 0 then (if bt603.2.2 = 0 then ((laws_sameBytes.f k bt599.1 bt609.1).bind fun t627 => (if t627 = true then (if (bt609.1.length : Int) = 2 then (if bt613.2 = 2 then (if bt615.2.2 = 6 then (if bt621.2.2 = 6 then ((impl_UsageOf.f k bt603.1 bt603.2.1).bind fun t628 => ((impl_UsageOf.f k bt589.1 bt589.2.1).bind fun t629 => (some (t628 == t629)))) else (none)) else (none)) else (none)) else (none)) else (none))) else (none)) else (none)) else (none)) else (none)))))) else (none)))) else (none))))))
def laws_FnMovedTree.T11 : Bool × List (List Nat × List Nat) := (true, [([], []), ([0], [0]), ([1], [1]), ([2, 1], [1, 2]), ([1, 3], [1, 3]), ([4, 1], [4]), ([5], [5]), ([6, 5], [5, 6]), ([5, 7], [5, 7]), ([8, 5], [8]), ([9], [9]), ([10, 9], [9, 10]), ([9, 11], [9, 11]), ([12, 9], [12]), ([13], [13]), ([13], [13]), ([14, 15, 13, 13], [13, 14, 15]), ([13, 16], [13, 16]), ([17, 16], [17]), ([18], [18]), ([19, 18], [18, 19]), ([20, 18], [18, 20]), ([18, 21], [18, 21]), ([22, 18], [22]), ([23], [23]), ([24, 23], [23, 24]), ([23, 25], [23, 25]), ([26, 23], [26]), ([27], [27]), ([28, 27], [27, 28]), ([27, 29], [27, 29]), ([30, 27], [30]), ([31], [31]), ([32, 31], [31, 32]), ([31, 33], [31, 33]), ([34, 31], [34]), ([35], [35]), ([36, 35, 35], [35, 36]), ([35], [35]), ([38, 37, 35], [35, 38]), ([37, 39, 35], [35, 37, 39]), ([35, 40], [35, 40]), ([41, 39, 0, 1, 2, 3, 4, 5, 6, 7, 8, 9, 10, 11, 12, 13, 14, 15, 16, 17, 18, 19, 20, 21, 22, 23, 24, 25, 26, 27, 28, 29, 30, 31, 32, 33, 34, 35, 36, 37, 38, 39, 40, 41], [41])])
def laws_FnMovedTree.B11 : List Nat := [0, 1, 3, 7, 15, 31, 63, 127, 255, 511, 1023, 2047, 4095, 8191, 16383, 16383, 65535, 131071, 262143, 524287, 1048575, 2097151, 4194303, 8388607, 16777215, 33554431, 67108863, 134217727, 268435455, 536870911, 1073741823, 2147483647, 4294967295, 8589934591, 17179869183, 34359738367, 68719476735, 137438953471, 68719476735, 549755813887, 1099511627775, 2199023255551, 4398046511103]
theorem laws_FnMovedTree.tab11 : rtab .any (opsOf Tryz.f9 11) = laws_FnMovedTree.T11 := by kernel_rfl
theorem laws_FnMovedTree.bits11 : waitsOk laws_FnMovedTree.T11.2 laws_FnMovedTree.B11 = true := by kernel_rfl
set_option maxHeartbeats 8000000 in
set_option maxRecDepth 100000 in
theorem laws_FnMovedTree.calls (k : Nat) (A0 : Option Addr) (c0 : Nat) (l0 : List Int) (r : Bool) (w : World) (hr0 : Kd.C (Kd.int .u8) w A0 l0.length l0) (hc0 : l0.length ≤ c0) (h : laws_FnMovedTree.f k l0 = some r) (hG : GOk w := by exact gk_ oB (by first | (with_reducible assumption) | assumption)) :
  Calls Tryz.prog 9 #[.slice A0 l0.length c0] w fun e w' => e = .returned (.bool r) ∧ Below w.heap.size w w' := by
 have HG := Aside0.mk hG
 clear hG
 have hu26 := Tryz.underlying26
 have HR0 := Aside0.mk hr0
 have HC0 := Aside0.mk hc0
 clear hr0 hc0
 have HB := Aside0.mk (Below.refl w.heap.size w)
 unfold laws_FnMovedTree.f at h
 have H := h
 clear h
 replace H := bA H
 obtain ⟨t588, A2, H⟩ := H
 try dsimp only at H
 replace H := itB H
 rcases H with ⟨rfl, H⟩ | ⟨rfl, H⟩
 ·obtain rfl := Option.some.inj H
  go_enter Tryz.func9, Tryz.ntmps9
  go_wp2_with (first | ((with_reducible refine gate_callee (f := 11) rfl ?_); refine gl_ 19 Tryz.func11 (laws_big.calls _ _ l0 true _ (kD HR0) HC0.out A2.out) ?_; rintro e w' ⟨rfl, ⟨nd, rfl⟩⟩; refine ⟨_, rfl, ?_⟩))
  go_ret
  exact ⟨oE, oB⟩
 ·replace H := bA H
  obtain ⟨⟨t589, t592, t593⟩, A4, H⟩ := H
  try dsimp only at H
  replace H := bA H
  obtain ⟨t595, A5, H⟩ := H
  try dsimp only at H
  obtain ⟨y596, hy596⟩ : ∃ y_ : List Int, y_ = (([(wrap64 (97 + (Int.tmod t595 26))) % 256] : List Int)) := ⟨_, rfl⟩
  replace H : (if 2 + (strOfNums y596).size ≤ 9223372036854775807 then ((impl_ReadFile.f k t589 t592 (⟨#[47, 100, 105, 114, 47, 111, 110, 101]⟩ : ByteArray) 0 10).bind fun bt599 => ((impl_Rename.f k t589 t592 (⟨#[47, 100, 105, 114]⟩ : ByteArray) ((⟨#[47, 109]⟩ : ByteArray) ++ (strOfNums y596))).bind fun bt603 => (if ((⟨#[47, 109]⟩ : ByteArray) ++ (strOfNums y596)).size + 4 ≤ 9223372036854775807 then ((impl_ReadFile.f k bt603.1 bt603.2.1 (((⟨#[47, 109]⟩ : ByteArray) ++ (strOfNums y596)) ++ (⟨#[47, 111, 110, 101]⟩ : ByteArray)) 0 10).bind fun bt609 => ((impl_Walk.f k bt603.1 bt603.2.1 (⟨#[47, 100, 105, 114, 47, 111, 110, 101]⟩ : ByteArray)).bind fun bt613 => ((impl_Rename.f k t589 t592 (⟨#[47, 100, 105, 114]⟩ : ByteArray) (⟨#[47, 100, 105, 114, 47, 115, 117, 98]⟩ : ByteArray)).bind fun bt615 => ((impl_Rename.f k t589 t592 (⟨#[47, 100, 105, 114]⟩ : ByteArray) (⟨#[47, 100, 105, 114]⟩ : ByteArray)).bind fun bt621 => (if t593 = true then (if bt599.2 = 0 then (if bt609.2 = 0 then (if bt603.2.2 = 0 then ((laws_sameBytes.f k bt599.1 bt609.1).bind fun t627 => (if t627 = true then (if (bt609.1.length : Int) = 2 then (if bt613.2 = 2 then (if bt615.2.2 = 6 then (if bt621.2.2 = 6 then ((impl_UsageOf.f k bt603.1 bt603.2.1).bind fun t628 => ((impl_UsageOf.f k t589 t592).bind fun t629 => (some (t628 == t629)))) else (none)) else (none)) else (none)) else (none)) else (none))) else (none)) else (none)) else (none)) else (none)))))) else (none)))) else (none)) = some r := by first | (rw [hy596]; with_reducible exact H) | (have H2_ := (Option.bind_some _ _).symm.trans H; rw [hy596]; with_reducible exact H2_) | (have H2_ := (Option.bind_some _ _).symm.trans H; with_reducible exact H2_) | with_reducible exact H | (rw [hy596]; exact H) | exact H
  have Ny596 := Aside0.mk hy596
  clear hy596
  by_cases c6 : 2 + (strOfNums y596).size ≤ 9223372036854775807
  ·rw [if_pos c6] at H
   have c6b0 := eq_true c6
   have c6b1 : decide (2 + (strOfNums y596).size ≤ 9223372036854775807) = true := decide_eq_true c6
   try have c6b2 : (9223372036854775807 < 2 + (strOfNums y596).size) = False := eq_false (Nat.not_lt.2 c6)
   replace H := bA H
   obtain ⟨⟨t599, t602⟩, A7, H⟩ := H
   try dsimp only at H
   replace H := bA H
   obtain ⟨⟨t603, t606, t607⟩, A8, H⟩ := H
   try dsimp only at H
   by_cases c9 : ((⟨#[47, 109]⟩ : ByteArray) ++ (strOfNums y596)).size + 4 ≤ 9223372036854775807
   ·rw [if_pos c9] at H
    have c9b0 := eq_true c9
    have c9b1 : decide (((⟨#[47, 109]⟩ : ByteArray) ++ (strOfNums y596)).size + 4 ≤ 9223372036854775807) = true := decide_eq_true c9
    try have c9b2 : (9223372036854775807 < ((⟨#[47, 109]⟩ : ByteArray) ++ (strOfNums y596)).size + 4) = False := eq_false (Nat.not_lt.2 c9)
    try have c9b4 : (9223372036854775807 < 2 + (strOfNums y596).size + 4) = False := eq_false (Nat.not_lt.2 (by have h_ := c9; rw [ByteArray.size_append] at h_; exact h_))
    replace H := bA H
    obtain ⟨⟨t609, t612⟩, A10, H⟩ := H
    try dsimp only at H
    replace H := bA H
    obtain ⟨⟨t613, t614⟩, A11, H⟩ := H
    try dsimp only at H
    replace H := bA H
    obtain ⟨⟨t615, t618, t619⟩, A12, H⟩ := H
    try dsimp only at H
    replace H := bA H
    obtain ⟨⟨t621, t624, t625⟩, A13, H⟩ := H
    try dsimp only at H
    replace H := itB H
    rcases H with ⟨rfl, H⟩ | ⟨rfl, H⟩
    ·by_cases c15 : t602 = 0
     ·rw [if_pos c15] at H
      have c15b0 : (t602 == 0) = true := beq_iff_eq.mpr c15
      have c15b1 : (t602 != 0) = false := bne_eq_false_iff_eq.mpr c15
      clear c15
      by_cases c16 : t612 = 0
      ·rw [if_pos c16] at H
       have c16b0 : (t612 == 0) = true := beq_iff_eq.mpr c16
       have c16b1 : (t612 != 0) = false := bne_eq_false_iff_eq.mpr c16
       clear c16
       by_cases c17 : t607 = 0
       ·rw [if_pos c17] at H
        have c17b0 : (t607 == 0) = true := beq_iff_eq.mpr c17
        have c17b1 : (t607 != 0) = false := bne_eq_false_iff_eq.mpr c17
        clear c17
        replace H := bA H
        obtain ⟨t627, A18, H⟩ := H
        try dsimp only at H
        replace H := itB H
        rcases H with ⟨rfl, H⟩ | ⟨rfl, H⟩
        ·by_cases c20 : (t609.length : Int) = 2
         ·rw [if_pos c20] at H
          have c20b0 : ((t609.length : Int) == 2) = true := beq_iff_eq.mpr c20
          have c20b1 : ((t609.length : Int) != 2) = false := bne_eq_false_iff_eq.mpr c20
          clear c20
          by_cases c21 : t614 = 2
          ·rw [if_pos c21] at H
           have c21b0 : (t614 == 2) = true := beq_iff_eq.mpr c21
           have c21b1 : (t614 != 2) = false := bne_eq_false_iff_eq.mpr c21
           clear c21
           by_cases c22 : t619 = 6
           ·rw [if_pos c22] at H
            have c22b0 : (t619 == 6) = true := beq_iff_eq.mpr c22
            have c22b1 : (t619 != 6) = false := bne_eq_false_iff_eq.mpr c22
            clear c22
            by_cases c23 : t625 = 6
            ·rw [if_pos c23] at H
             have c23b0 : (t625 == 6) = true := beq_iff_eq.mpr c23
             have c23b1 : (t625 != 6) = false := bne_eq_false_iff_eq.mpr c23
             clear c23
             replace H := bA H
             obtain ⟨t628, A24, H⟩ := H
             try dsimp only at H
             replace H := bA H
             obtain ⟨t629, A25, H⟩ := H
             try dsimp only at H
             obtain rfl := Option.some.inj H
             go_enter Tryz.func9, Tryz.ntmps9
             try go_wp2_with (first | ((with_reducible refine gate_callee (f := 11) rfl ?_); refine gl_ 19 Tryz.func11 (laws_big.calls _ _ l0 false _ (kD HR0) HC0.out A2.out) ?_; rintro e w' ⟨rfl, ⟨nd, rfl⟩⟩; refine ⟨_, rfl, ?_⟩) | ((with_reducible refine gate_callee (f := 21) rfl ?_); refine gl_ 22 Tryz.func21 (laws_grown.calls k _ _ l0 t589 t592 true _ (kD HR0) HC0.out A4.out) ?_; rintro e w26 ⟨v590, rfl, ho0, hb⟩; refine ⟨_, rfl, ?_⟩; have HO591 := Aside0.mk (Kd.S_lower ho0 (below_size oB)); replace HB := Aside0.mk (below_step oB hb)) | ((with_reducible refine gate_dst (N := 3) rfl ?_); (try (refine gate_guard (by rfl) ?_; dsimp only)); refine bx_ 3 #[.slice none 0 0, .int .i64 0] 26 ?_; intro gb594 hg w27 hbox hb; have BK594 := Aside0.mk (hbox); have GW594 := gs_ hg; replace HO591 := beS0 HO591 hb; replace HB := Aside0.mk (below_step oB hb); clear hb hbox hg; obtain ⟨Ao28, co28, eo28⟩ := Kd.S_slice HO591.out; subst eo28; obtain ⟨⟨_, _⟩, _, _⟩ := z2 BK594) | ((with_reducible refine gate_callee (f := 20) rfl ?_); refine gl_ 26 Tryz.func20 (laws_at.calls _ _ l0 4 t595 _ ?side1 HC0.out A5.out) ?_; (case side1 => exact Kd.C_below HR0.out oB); rintro e w' ⟨rfl, ⟨nd, rfl⟩⟩; refine ⟨_, rfl, ?_⟩) | ((with_reducible refine gate_dst (N := 30) rfl ?_); (try (refine gate_guard (by rfl) ?_; dsimp only)); refine Kd.R_lit (Kd.int .u8) _ 5 ?hg (N := 30) ?hd (xs := ([(wrap64 (97 + (Int.tmod t595 26))) % 256] : List Int)) (inner := [.int .u8 ((wrap64 (97 + (Int.tmod t595 26))) % 256)]) (ok := fun _ => True) (okp := fun _ => True) ?hr ?hp (fun _ hk => hk) trivial (Below.refl _ _) (Nat.le_refl _) (by simp) ?_; (case hd => rfl); (case hg => rfl); (case hr => first | (go_simp; done) | (go_simp; rfl)); (case hp => exact (Reps.one (show Kd.M (Kd.int .u8) _ _ _ ((wrap64 (97 + (Int.tmod t595 26))) % 256) [.int .u8 ((wrap64 (97 + (Int.tmod t595 26))) % 256)] from rfl) (Reps.none _ _))); intro v597 w30 ho31 hb hg_ hnew_; clear hg_ hnew_; (first | rw [← Ny596.out] at ho31 | (simp only [Int.reduceToNat] at ho31; rw [← Ny596.out] at ho31)); have HO598 := Aside0.mk (Kd.R_lower ho31 (below_size oB)); replace HO591 := elS1 HO591 BK594 (Kd.R_base ho31) hb; replace BK594 := kp_ #[.slice Ao28 t589.length co28, .int .i64 t592] BK594 hb; replace HB := Aside0.mk (below_step oB hb); clear hb ho31; have hcv32 := own_string (P := Tryz.prog) Tryz.underlying22 Tryz.underlying5 Tryz.underlying9 (Kd.own_of_R HO598.out); obtain ⟨⟨_, _⟩, _, _⟩ := z2 BK594) | ((with_reducible refine gate_callee (f := 23) rfl ?_); refine gl_ 35 Tryz.func23 (impl_ReadFile.calls k _ _ t589 t592 (⟨#[47, 100, 105, 114, 47, 111, 110, 101]⟩ : ByteArray) 0 10 t599 t602 _ (rcS0 HO591) (rnS HO591) A7.out) ?_; rintro e w34 ⟨v600, rfl, ho0, hb⟩; refine ⟨_, rfl, ?_⟩; have HO601 := Aside0.mk (Kd.R_lower (Kd.R_new' ho0 (kl_ HO598)) (below_size oB)); replace HO591 := elS0 HO591 (Kd.R_base ho0) hb; replace HO598 := ke_ HO598 ho0 hb; replace BK594 := kb_ BK594 hb; replace HB := Aside0.mk (below_step oB hb); obtain ⟨⟨_, _⟩, _, _⟩ := z2 BK594) | ((with_reducible refine gate_callee (f := 30) rfl ?_); refine gl_ 41 Tryz.func30 (impl_Rename.calls k _ _ t589 t592 (⟨#[47, 100, 105, 114]⟩ : ByteArray) ((⟨#[47, 109]⟩ : ByteArray) ++ (strOfNums y596)) t603 t606 t607 _ (rcS0 HO591) (rnS HO591) A8.out) ?_; rintro e w36 ⟨v604, rfl, ho0, hb⟩; refine ⟨_, rfl, ?_⟩; have HO605 := Aside0.mk (Kd.S_lower (Kd.S_new' (Kd.S_new' (Kd.S_new' ho0 (ltS0 HO591)) (kl_ HO598)) (kl_ HO601)) (below_size oB)); replace HO591 := elS0 HO591 (Kd.S_base ho0) hb; replace HO598 := kr_ HO598 hb; replace HO601 := kr_ HO601 hb; replace BK594 := kb_ BK594 hb; replace HB := Aside0.mk (below_step oB hb)) | ((with_reducible refine gate_dst (N := 8) rfl ?_); (try (refine gate_guard (by rfl) ?_; dsimp only)); refine bx_ 8 #[.slice none 0 0, .int .i64 0] 26 ?_; intro gb608 hg w37 hbox hb; have BK608 := Aside0.mk (hbox); have GW608 := gs_ hg; have NB594_608 := nl_ hg BK594; have NB608_594 := nr_ hg BK594; replace HO591 := beS0 HO591 hb; replace HO598 := kr_ HO598 hb; replace HO601 := kr_ HO601 hb; replace HO605 := beS0 HO605 hb; replace BK594 := kb_ BK594 hb; replace HB := Aside0.mk (below_step oB hb); clear hb hbox hg; obtain ⟨Ao38, co38, eo38⟩ := Kd.S_slice HO605.out; subst eo38; have hnb39 := NB608_594.out; have hnc39 := NB594_608.out; obtain ⟨⟨_, _⟩, _, _⟩ := z2 BK608) | ((with_reducible refine gate_callee (f := 23) rfl ?_); refine gl_ 48 Tryz.func23 (impl_ReadFile.calls k _ _ t603 t606 (((⟨#[47, 109]⟩ : ByteArray) ++ (strOfNums y596)) ++ (⟨#[47, 111, 110, 101]⟩ : ByteArray)) 0 10 t609 t612 _ (rcS1 HO605 BK608) (rnS HO605) A10.out) ?_; rintro e w41 ⟨v610, rfl, ho0, hb⟩; refine ⟨_, rfl, ?_⟩; have HO611 := Aside0.mk (Kd.R_lower (Kd.R_new' (Kd.R_new' ho0 (ltR1 HO598 BK608)) (ltR1 HO601 BK608)) (below_size oB)); replace HO591 := elS1 HO591 BK608 (Kd.R_base ho0) hb; replace HO598 := elR1 HO598 BK608 (Kd.R_base ho0) hb; replace HO601 := elR1 HO601 BK608 (Kd.R_base ho0) hb; replace HO605 := elS1 HO605 BK608 (Kd.R_base ho0) hb; replace BK594 := kb_ BK594 hb; replace BK608 := kp_ #[.slice Ao38 t603.length co38, .int .i64 t606] BK608 hb; replace HB := Aside0.mk (below_step oB hb); (try clear hk); obtain ⟨⟨_, _⟩, _, _⟩ := z2 BK608) | ((with_reducible refine gate_callee (f := 31) rfl ?_); refine gl_ 53 Tryz.func31 (impl_Walk.calls k _ _ t603 t606 (⟨#[47, 100, 105, 114, 47, 111, 110, 101]⟩ : ByteArray) t613 t614 _ (rcS0 HO605) (rnS HO605) A11.out) ?_; rintro e w43 ⟨rfl, hb⟩; refine ⟨_, rfl, ?_⟩; replace HO591 := beS0 HO591 hb; replace HO601 := kr_ HO601 hb; replace HO605 := beS0 HO605 hb; replace HO611 := kr_ HO611 hb; replace BK594 := kb_ BK594 hb; replace BK608 := kb_ BK608 hb; replace HB := Aside0.mk (below_step oB hb); obtain ⟨⟨_, _⟩, _, _⟩ := z2 BK594) | ((with_reducible refine gate_callee (f := 30) rfl ?_); refine gl_ 58 Tryz.func30 (impl_Rename.calls k _ _ t589 t592 (⟨#[47, 100, 105, 114]⟩ : ByteArray) (⟨#[47, 100, 105, 114, 47, 115, 117, 98]⟩ : ByteArray) t615 t618 t619 _ (rcS0 HO591) (rnS HO591) A12.out) ?_; rintro e w45 ⟨v616, rfl, ho0, hb⟩; refine ⟨_, rfl, ?_⟩; have HO617 := Aside0.mk (Kd.S_lower (Kd.S_new' (Kd.S_new' (Kd.S_new' (Kd.S_new' ho0 (ltS0 HO591)) (kl_ HO601)) (ltS0 HO605)) (kl_ HO611)) (below_size oB)); replace HO591 := elS0 HO591 (Kd.S_base ho0) hb; replace HO601 := kr_ HO601 hb; replace HO605 := elS0 HO605 (Kd.S_base ho0) hb; replace HO611 := kr_ HO611 hb; replace BK594 := kb_ BK594 hb; replace BK608 := kb_ BK608 hb; replace HB := Aside0.mk (below_step oB hb)) | ((with_reducible refine gate_dst (N := 14) rfl ?_); (try (refine gate_guard (by rfl) ?_; dsimp only)); refine bx_ 14 #[.slice none 0 0, .int .i64 0] 26 ?_; intro gb620 hg w46 hbox hb; have BK620 := Aside0.mk (hbox); have GW620 := gs_ hg; have NB594_620 := nl_ hg BK594; have NB620_594 := nr_ hg BK594; have NB608_620 := nl_ hg BK608; have NB620_608 := nr_ hg BK608; replace HO591 := beS0 HO591 hb; replace HO601 := kr_ HO601 hb; replace HO605 := beS0 HO605 hb; replace HO611 := kr_ HO611 hb; replace HO617 := beS0 HO617 hb; replace BK594 := kb_ BK594 hb; replace BK608 := kb_ BK608 hb; replace HB := Aside0.mk (below_step oB hb); clear hb hbox hg; obtain ⟨Ao47, co47, eo47⟩ := Kd.S_slice HO617.out; subst eo47; have hnb48 := NB620_594.out; have hnc48 := NB594_620.out; have hnb49 := NB620_608.out; have hnc49 := NB608_620.out; obtain ⟨⟨_, _⟩, _, _⟩ := z2 BK620; obtain ⟨⟨_, _⟩, _, _⟩ := z2 BK594) | ((with_reducible refine gate_callee (f := 30) rfl ?_); refine gl_ 63 Tryz.func30 (impl_Rename.calls k _ _ t589 t592 (⟨#[47, 100, 105, 114]⟩ : ByteArray) (⟨#[47, 100, 105, 114]⟩ : ByteArray) t621 t624 t625 _ (rcS1 HO591 BK620) (rnS HO591) A13.out) ?_; rintro e w52 ⟨v622, rfl, ho0, hb⟩; refine ⟨_, rfl, ?_⟩; have HO623 := Aside0.mk (Kd.S_lower (Kd.S_new' (Kd.S_new' (Kd.S_new' (Kd.S_new' ho0 (ltS1 HO591 BK620)) (ltR1 HO601 BK620)) (ltS1 HO605 BK620)) (ltR1 HO611 BK620)) (below_size oB)); replace HO591 := elS1 HO591 BK620 (Kd.S_base ho0) hb; replace HO601 := beR1 HO601 BK620 hb; replace HO605 := elS1 HO605 BK620 (Kd.S_base ho0) hb; replace HO611 := beR1 HO611 BK620 hb; replace BK594 := kb_ BK594 hb; replace BK608 := kb_ BK608 hb; replace BK620 := kp_ #[.slice Ao47 t615.length co47, .int .i64 t618] BK620 hb; replace HB := Aside0.mk (below_step oB hb); (try clear hk)) | ((with_reducible refine gate_dst (N := 16) rfl ?_); (try (refine gate_guard (by rfl) ?_; dsimp only)); refine bx_ 16 #[.slice none 0 0, .int .i64 0] 26 ?_; intro gb626 hg w53 hbox hb; have BK626 := Aside0.mk (hbox); have GW626 := gs_ hg; have NB594_626 := nl_ hg BK594; have NB626_594 := nr_ hg BK594; have NB608_626 := nl_ hg BK608; have NB626_608 := nr_ hg BK608; have NB620_626 := nl_ hg BK620; have NB626_620 := nr_ hg BK620; replace HO591 := beS0 HO591 hb; replace HO601 := kr_ HO601 hb; replace HO605 := beS0 HO605 hb; replace HO611 := kr_ HO611 hb; replace HO623 := beS0 HO623 hb; replace BK594 := kb_ BK594 hb; replace BK608 := kb_ BK608 hb; replace BK620 := kb_ BK620 hb; replace HB := Aside0.mk (below_step oB hb); clear hb hbox hg; obtain ⟨Ao54, co54, eo54⟩ := Kd.S_slice HO623.out; subst eo54; have hnb55 := NB626_594.out; have hnc55 := NB594_626.out; have hnb56 := NB626_608.out; have hnc56 := NB608_626.out; have hnb57 := NB626_620.out; have hnc57 := NB620_626.out; obtain ⟨⟨_, _⟩, _, _⟩ := z2 BK626))
             have n0_ : Aside0 (Kd.S k51 51 ((w53.setCell ⟨gb626, 0, none⟩ (.slice Ao54 t621.length co54)).setCell ⟨gb626, 1, none⟩ (.int .i64 t624)) w.heap.size (fun k_ => some k_ ≠ (v600 : Value).ownBlock ∧ some k_ ≠ (.slice Ao38 t603.length co38 : Value).ownBlock ∧ some k_ ≠ (v610 : Value).ownBlock) (.slice Ao28 t589.length co28) t589) := ⟨by (with_reducible repeat (first | apply Kd.S_alloc | apply Kd.S_drewN | apply Kd.S_drew)); exact Kd.S_mono (Kd.S_far (p := ⟨gb626, 1, none⟩) (Kd.S_far (p := ⟨gb626, 0, none⟩) (Kd.S_types HO591.out BK626.out (by decide)) (fun _ hk => hk.2) (.slice Ao54 t621.length co54)) (fun _ hk => hk.2) (.int .i64 t624)) (fun _ hk => ⟨hk.1.1.1.1.1.2, ⟨hk.1.1.1.1.2, hk.1.1.1.2⟩⟩)⟩
             have n1_ : Aside0 (Kd.R (Kd.int .u8) 5 ((w53.setCell ⟨gb626, 0, none⟩ (.slice Ao54 t621.length co54)).setCell ⟨gb626, 1, none⟩ (.int .i64 t624)) w.heap.size (fun k_ => some k_ ≠ (v610 : Value).ownBlock) v600 t599) := ⟨by (with_reducible repeat (first | apply Kd.R_alloc | apply Kd.R_drewN | apply Kd.R_drew)); exact Kd.R_mono (Kd.R_far (p := ⟨gb626, 1, none⟩) (Kd.R_far (p := ⟨gb626, 0, none⟩) (Kd.R_types HO601.out BK626.out (by decide)) (fun _ hk => hk.2) (.slice Ao54 t621.length co54)) (fun _ hk => hk.2) (.int .i64 t624)) (fun _ hk => hk.1.2)⟩
             have n2_ : Aside0 (Kd.S k51 51 ((w53.setCell ⟨gb626, 0, none⟩ (.slice Ao54 t621.length co54)).setCell ⟨gb626, 1, none⟩ (.int .i64 t624)) w.heap.size (fun k_ => some k_ ≠ (.slice Ao28 t589.length co28 : Value).ownBlock ∧ some k_ ≠ (v600 : Value).ownBlock ∧ some k_ ≠ (v610 : Value).ownBlock) (.slice Ao38 t603.length co38) t603) := ⟨by (with_reducible repeat (first | apply Kd.S_alloc | apply Kd.S_drewN | apply Kd.S_drew)); exact Kd.S_mono (Kd.S_far (p := ⟨gb626, 1, none⟩) (Kd.S_far (p := ⟨gb626, 0, none⟩) (Kd.S_types HO605.out BK626.out (by decide)) (fun _ hk => hk.2) (.slice Ao54 t621.length co54)) (fun _ hk => hk.2) (.int .i64 t624)) (fun _ hk => ⟨hk.1.1.1.1.1.1.2, ⟨hk.1.1.1.1.2, hk.1.1.1.2⟩⟩)⟩
             have n3_ : Aside0 (Kd.R (Kd.int .u8) 5 ((w53.setCell ⟨gb626, 0, none⟩ (.slice Ao54 t621.length co54)).setCell ⟨gb626, 1, none⟩ (.int .i64 t624)) w.heap.size (fun k_ => some k_ ≠ (v600 : Value).ownBlock) v610 t609) := ⟨by (with_reducible repeat (first | apply Kd.R_alloc | apply Kd.R_drewN | apply Kd.R_drew)); exact Kd.R_mono (Kd.R_far (p := ⟨gb626, 1, none⟩) (Kd.R_far (p := ⟨gb626, 0, none⟩) (Kd.R_types HO611.out BK626.out (by decide)) (fun _ hk => hk.2) (.slice Ao54 t621.length co54)) (fun _ hk => hk.2) (.int .i64 t624)) (fun _ hk => hk.1.2)⟩
             have n4_ : Aside0 (((w53.setCell ⟨gb626, 0, none⟩ (.slice Ao54 t621.length co54)).setCell ⟨gb626, 1, none⟩ (.int .i64 t624)).heap[gb594]? = some (.cells #[.slice Ao28 t589.length co28, .int .i64 t592] 26 (0, 0))) := ⟨oF BK594⟩
             have n5_ : Aside0 (((w53.setCell ⟨gb626, 0, none⟩ (.slice Ao54 t621.length co54)).setCell ⟨gb626, 1, none⟩ (.int .i64 t624)).heap[gb608]? = some (.cells #[.slice Ao38 t603.length co38, .int .i64 t606] 26 (0, 0))) := ⟨oF BK608⟩
             have n6_ : Aside0 (((w53.setCell ⟨gb626, 0, none⟩ (.slice Ao54 t621.length co54)).setCell ⟨gb626, 1, none⟩ (.int .i64 t624)).heap[gb620]? = some (.cells #[.slice Ao47 t615.length co47, .int .i64 t618] 26 (0, 0))) := ⟨oF BK620⟩
             have n7_ : Aside0 (((w53.setCell ⟨gb626, 0, none⟩ (.slice Ao54 t621.length co54)).setCell ⟨gb626, 1, none⟩ (.int .i64 t624)).heap[gb626]? = some (.cells #[.slice Ao54 t621.length co54, .int .i64 t624] 26 (0, 0))) := ⟨oP BK626⟩
             have n8_ : Aside0 (Below w.heap.size w ((w53.setCell ⟨gb626, 0, none⟩ (.slice Ao54 t621.length co54)).setCell ⟨gb626, 1, none⟩ (.int .i64 t624))) := ⟨oB⟩
             (try clear HO591)
             (try clear HO601)
             (try clear HO605)
             (try clear HO611)
             (try clear BK594)
             (try clear BK608)
             (try clear BK620)
             (try clear BK626)
             (try clear HB)
             generalize ((w53.setCell ⟨gb626, 0, none⟩ (.slice Ao54 t621.length co54)).setCell ⟨gb626, 1, none⟩ (.int .i64 t624)) = w59 at n0_ n1_ n2_ n3_ n4_ n5_ n6_ n7_ n8_ ⊢
             have HO591 := n0_
             have HO601 := n1_
             have HO605 := n2_
             have HO611 := n3_
             have BK594 := n4_
             have BK608 := n5_
             have BK620 := n6_
             have BK626 := n7_
             have HB := n8_
             clear n0_ n1_ n2_ n3_ n4_ n5_ n6_ n7_ n8_
             replace HO591 := Aside0.mk (Kd.S_drew HO591.out)
             replace HO601 := Aside0.mk (Kd.R_drew HO601.out)
             replace HO605 := Aside0.mk (Kd.S_drew HO605.out)
             replace HO611 := Aside0.mk (Kd.R_drew HO611.out)
             replace BK594 := Aside0.mk (blk_drew BK594.out)
             replace BK608 := Aside0.mk (blk_drew BK608.out)
             replace BK620 := Aside0.mk (blk_drew BK620.out)
             replace BK626 := Aside0.mk (blk_drew BK626.out)
             replace HB := Aside0.mk (below_drew1 HB.out)
             obtain ⟨Ao61, co61, eo61⟩ := Kd.R_slice HO601.out
             (first | subst eo61 | (injection eo61 with f1_ f2_ f3_; have f4_ := f1_.symm; have f5_ := f3_.symm; clear f1_ f2_ f3_; subst f4_; subst f5_))
             obtain ⟨Ao62, co62, eo62⟩ := Kd.R_slice HO611.out
             (first | subst eo62 | (injection eo62 with f1_ f2_ f3_; have f4_ := f1_.symm; have f5_ := f3_.symm; clear f1_ f2_ f3_; subst f4_; subst f5_))
             refine st_ 43 (fun w' => w'.cell? ⟨gb608, 0, none⟩ = some (.slice Ao38 t603.length co38) ∧ w'.cell? ⟨gb608, 1, none⟩ = some (.int .i64 t606) ∧ w'.cell? ⟨gb594, 0, none⟩ = some (.slice Ao28 t589.length co28) ∧ w'.cell? ⟨gb594, 1, none⟩ = some (.int .i64 t592)) laws_FnMovedTree.tab11 laws_FnMovedTree.bits11 oH (fun hHeld HT_ HW_ => ?_)
             generalize w59.drew = w60 at HO591 HO601 HO605 HO611 BK594 BK608 BK620 BK626 HB hHeld ⊢
             refine pu_ 0 66 HT_ ?_
             refine pu_ 1 67 HT_ ?_
             refine pu_ 2 68 HT_ ?_
             refine pu_ 3 69 HT_ ?_
             refine pu_ 4 70 HT_ ?_
             refine pu_ 5 71 HT_ ?_
             refine pu_ 6 72 HT_ ?_
             refine pu_ 7 73 HT_ ?_
             refine pu_ 8 74 HT_ ?_
             refine pu_ 9 75 HT_ ?_
             refine pu_ 10 76 HT_ ?_
             refine pu_ 11 77 HT_ ?_
             refine pu_ 12 78 HT_ ?_
             refine pu_ 13 79 HT_ ?_
             refine pu_ 14 80 HT_ ?_
             refine pu_ 15 81 HT_ ?_
             refine on_ 16 82 HT_ (fun K hK => ?_)
             refine gr_ 82 Tryz.func32 (laws_sameBytes.calls k _ _ t599 _ _ t609 true _ (kO HO601) (ko HO601) (kO HO611) (ko HO611) A18.out) ?_
             rintro e w' ⟨rfl, ⟨nd, rfl⟩⟩
             refine ⟨_, rfl, ?_⟩
             refine hk_ hK 82 oH (fun hHeld => ?_)
             clear hK K
             refine pu_ 17 83 HT_ ?_
             refine pu_ 18 84 HT_ ?_
             refine pu_ 19 85 HT_ ?_
             refine pu_ 20 86 HT_ ?_
             refine pu_ 21 87 HT_ ?_
             refine pu_ 22 88 HT_ ?_
             refine pu_ 23 89 HT_ ?_
             refine pu_ 24 90 HT_ ?_
             refine pu_ 25 91 HT_ ?_
             refine pu_ 26 92 HT_ ?_
             refine pu_ 27 93 HT_ ?_
             refine pu_ 28 94 HT_ ?_
             refine pu_ 29 95 HT_ ?_
             refine pu_ 30 96 HT_ ?_
             refine pu_ 31 97 HT_ ?_
             refine pu_ 32 98 HT_ ?_
             refine pu_ 33 99 HT_ ?_
             refine pu_ 34 100 HT_ ?_
             refine pu_ 35 101 HT_ ?_
             refine ta_ 36 102 HT_ HW_ hHeld ?_
             refine ta_ 38 104 HT_ HW_ hHeld ?_
             refine on_ 37 103 HT_ (fun K hK => ?_)
             refine gr_ 103 Tryz.func19 (impl_UsageOf.calls k _ _ t603 t606 t628 _ (rcS0 HO605) (rnS HO605) A24.out) ?_
             rintro e w63 ⟨rfl, hb⟩
             refine ⟨_, rfl, ?_⟩
             replace HO591 := beS0 HO591 hb
             replace HO601 := kr_ HO601 hb
             replace HO605 := beS0 HO605 hb
             replace HO611 := kr_ HO611 hb
             replace BK594 := kb_ BK594 hb
             replace BK608 := kb_ BK608 hb
             replace BK620 := kb_ BK620 hb
             replace BK626 := kb_ BK626 hb
             replace HB := Aside0.mk (below_step oB hb)
             refine hk_ hK 103 oH (fun hHeld => ?_)
             clear hK K
             refine on_ 39 105 HT_ (fun K hK => ?_)
             refine gr_ 105 Tryz.func19 (impl_UsageOf.calls k _ _ t589 t592 t629 _ (rcS0 HO591) (rnS HO591) A25.out) ?_
             rintro e w64 ⟨rfl, hb⟩
             refine ⟨_, rfl, ?_⟩
             replace HO591 := beS0 HO591 hb
             replace HO601 := kr_ HO601 hb
             replace HO605 := beS0 HO605 hb
             replace HO611 := kr_ HO611 hb
             replace BK594 := kb_ BK594 hb
             replace BK608 := kb_ BK608 hb
             replace BK620 := kb_ BK620 hb
             replace BK626 := kb_ BK626 hb
             replace HB := Aside0.mk (below_step oB hb)
             refine hk_ hK 105 oH (fun hHeld => ?_)
             clear hK K
             refine pu_ 40 106 HT_ ?_
             refine pu_ 41 107 HT_ ?_
             refine pu_ 42 2 HT_ ?_
             refine dn_ HT_ ?_
             try go_wp2
             go_ret
             exact ⟨oE, oB⟩
            ·rw [if_neg c23] at H
             cases H
           ·rw [if_neg c22] at H
            cases H
          ·rw [if_neg c21] at H
           cases H
         ·rw [if_neg c20] at H
          cases H
        ·cases H
       ·rw [if_neg c17] at H
        cases H
      ·rw [if_neg c16] at H
       cases H
     ·rw [if_neg c15] at H
      cases H
    ·cases H
   ·rw [if_neg c9] at H
    exact absurd H (by simp)
  ·rw [if_neg c6] at H
   exact absurd H (by simp)

/-- THE ONE PURE STATEMENT of laws_FnMovedTree: yours. -/
def laws_FnMovedTree.Pure : Prop := ∀ (l0 : List Int), l0.length ≤ maxLen → l0.length * 1 ≤ 140737488351232 → (∀ x ∈ l0, (Lit.int .u8 x).wf = true) → ∃ k, laws_FnMovedTree.f k l0 = some true
theorem laws_FnMovedTree.walk (P : laws_FnMovedTree.Pure) (a0 : Option Addr) (len0 cap0 : Nat) (z0 : List Int) (w : World) (w0 : (a0 = none ∧ len0 = 0 ∧ cap0 = 0 ∧ z0 = []) ∨ ∃ x, a0 = some x ∧ len0 ≤ cap0 ∧ cap0 ≤ maxLen ∧ z0.length = cap0 ∧ (∀ i, i < z0.length → w.cell? (x.add i) = some (.int .u8 (z0.getD i 0))) ∧ ∀ n ∈ z0, (Lit.int .u8 n).wf = true) (y0 : len0 * 1 ≤ 140737488351232) (hG : GOk w) :
  Calls Tryz.prog 9 #[.slice a0 len0 cap0] w fun e w' => e = .returned (.bool true) ∧ Below w.heap.size w w' := by
 obtain ⟨l0, rfl, hr0, hm0, hw0, hc0⟩ := ReadsInt.ofRowC w0
 obtain ⟨k, h⟩ := P l0 hm0 y0 hw0
 refine (laws_FnMovedTree.calls k _ _ l0 true w (Kd.C_of_reads (d := (0 : Int)) (h1 := fun _ => rfl) hr0) hc0 h hG).mono ?_
 rintro e w' ⟨rfl, hd⟩
 exact ⟨rfl, hd⟩

end Go.Proofs.YtkcfmbggdkkfeaaGreatDoor.P
