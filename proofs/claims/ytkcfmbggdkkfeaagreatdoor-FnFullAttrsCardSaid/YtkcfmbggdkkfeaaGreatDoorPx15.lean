-- By this session's own program (wip/myprint.py) out of the translation; Lean checks it.
import Derived.Test.YtkcfmbggdkkfeaaGreatDoorPx0
import Derived.Test.YtkcfmbggdkkfeaaGreatDoorPx3
import Derived.Test.YtkcfmbggdkkfeaaGreatDoorPx14
namespace Go.Proofs.YtkcfmbggdkkfeaaGreatDoor.P
open Go.RowKit Go.Proofs.YtkcfmbggdkkfeaaGreatDoorW.PrintWords Go.Proofs.YtkcfmbggdkkfeaaGreatDoorW.PrintLast Go.Proofs.YtkcfmbggdkkfeaaGreatDoorW.PrintMore
attribute [local go_sem] max2_int min2_int max_two min_two max_three min_three max_four min_four   -- for this text's walks alone
set_option linter.unusedVariables false
set_option linter.unusedSimpArgs false

/-! ### laws_grown: function 21 -/
def laws_grown.f (k : Nat) (l0 : List Int) : Option ((List (S51)) × Int × Bool) := (impl_TabNew.f).bind fun bt425 => ((impl_MakeDir.f k bt425.1 bt425.2 (⟨#[47, 100, 105, 114]⟩ : ByteArray)).bind fun bt429 => ((impl_MakeFile.f k bt429.1 bt429.2.1 (⟨#[47, 100, 105, 114, 47, 111, 110, 101]⟩ : ByteArray)).bind fun bt435 => ((impl_MakeFile.f k bt435.1 bt435.2.1 (⟨#[47, 100, 105, 114, 47, 116, 119, 111]⟩ : ByteArray)).bind fun bt440 => ((impl_MakeFile.f k bt440.1 bt440.2.1 (⟨#[47, 116, 111, 112]⟩ : ByteArray)).bind fun bt445 => ((laws_at.f l0 2).bind fun t450 => ((impl_WriteAt.f k bt445.1 bt445.2.1 (⟨#[47, 100, 105, 114, 47, 111, 110, 101]⟩ : ByteArray) 0 (([(t450) % 256, 7] : List Int))).bind fun bt454 => ((laws_at.f l0 3).bind fun t459 => ((impl_WriteAt.f k bt454.1 bt454.2.1 (⟨#[47, 116, 111, 112]⟩ : ByteArray) (Int.tmod t459 50) (([101, 110, 100] : List Int))).bind fun bt463 => (if bt429.2.2 = 0 then (if bt435.2.2 = 0 then (if bt440.2.2 = 0 then (if bt445.2.2 = 0 then (if bt454.2.2 = 0 then (if bt463.2.2 = 0 then (some (bt463.1, bt463.2.1, ((bt463.1.length : Int) == 5))) else (none)) else (none)) else (none)) else (none)) else (none)) else (none))))))))))
def laws_grown.T5 : Bool × List (List Nat × List Nat) := (true, [([], []), ([], []), ([1], [1]), ([2], [2]), ([3], [3]), ([0, 4, 2], [0, 4]), ([5], [5]), ([6], [6]), ([6], [6]), ([7, 5, 0, 1, 2, 3, 4, 5, 6, 7], [7]), ([8, 9, 0, 1, 2, 3, 4, 5, 6, 7, 8, 9], [8])])
def laws_grown.B5 : List Nat := [0, 0, 2, 6, 14, 31, 63, 127, 127, 255, 1023]
theorem laws_grown.tab5 : rtab .any (opsOf Tryz.f21 5) = laws_grown.T5 := by kernel_rfl
theorem laws_grown.bits5 : waitsOk laws_grown.T5.2 laws_grown.B5 = true := by kernel_rfl
def laws_grown.T6 : Bool × List (List Nat × List Nat) := (true, [([], []), ([], []), ([1], [1]), ([2], [2]), ([], []), ([4], [4]), ([0, 3, 5, 2], [0, 3, 5]), ([6], [6]), ([7], [7]), ([7], [7]), ([8, 6, 0, 1, 2, 3, 4, 5, 6, 7, 8], [8]), ([9, 10, 0, 1, 2, 3, 4, 5, 6, 7, 8, 9, 10], [9])])
def laws_grown.B6 : List Nat := [0, 0, 2, 6, 0, 16, 63, 127, 255, 255, 511, 2047]
theorem laws_grown.tab6 : rtab .any (opsOf Tryz.f21 6) = laws_grown.T6 := by kernel_rfl
theorem laws_grown.bits6 : waitsOk laws_grown.T6.2 laws_grown.B6 = true := by kernel_rfl
def laws_grown.T7 : Bool × List (List Nat × List Nat) := (true, [([], []), ([], []), ([1], [1]), ([2], [2]), ([3], [3]), ([4, 3], [3, 4]), ([3, 5], [3, 5]), ([6, 3], [6]), ([7], [7]), ([8, 7], [7, 8]), ([7, 9], [7, 9]), ([10, 7], [10]), ([11], [11]), ([12, 11], [11, 12]), ([11, 13], [11, 13]), ([14, 11], [14]), ([15], [15]), ([16, 15], [15, 16]), ([15, 17], [15, 17]), ([18, 15], [18]), ([19], [19]), ([20, 19], [19, 20]), ([19, 21], [19, 21]), ([22, 19], [22]), ([23], [23]), ([24, 23], [23, 24]), ([25, 23], [23, 25]), ([26, 23], [23, 26]), ([23, 27], [23, 27]), ([0, 23, 0], [0]), ([28, 29, 0, 1, 2, 3, 4, 5, 6, 7, 8, 9, 10, 11, 12, 13, 14, 15, 16, 17, 18, 19, 20, 21, 22, 23, 24, 25, 26, 27, 28, 29], [28])])
def laws_grown.B7 : List Nat := [0, 0, 2, 6, 14, 30, 62, 126, 254, 510, 1022, 2046, 4094, 8190, 16382, 32766, 65534, 131070, 262142, 524286, 1048574, 2097150, 4194302, 8388606, 16777214, 33554430, 67108862, 134217726, 268435454, 16777215, 1073741823]
theorem laws_grown.tab7 : rtab .any (opsOf Tryz.f21 7) = laws_grown.T7 := by kernel_rfl
theorem laws_grown.bits7 : waitsOk laws_grown.T7.2 laws_grown.B7 = true := by kernel_rfl
set_option maxHeartbeats 8000000 in
set_option maxRecDepth 100000 in
theorem laws_grown.calls (k : Nat) (A0 : Option Addr) (c0 : Nat) (l0 : List Int) (r1 : List (S51)) (r2 : Int) (r3 : Bool) (w : World) (hr0 : Kd.C (Kd.int .u8) w A0 l0.length l0) (hc0 : l0.length ≤ c0) (h : laws_grown.f k l0 = some (r1, r2, r3)) (hG : GOk w := by exact gk_ oB (by first | (with_reducible assumption) | assumption)) :
  Calls Tryz.prog 21 #[.slice A0 l0.length c0] w fun e w' => ∃ v0_ : Value, e = .returned (.tuple #[.agg #[v0_, .int .i64 r2], .bool r3]) ∧ Kd.S k51 51 w' w.heap.size (fun _ => True) v0_ r1 ∧ Below w.heap.size w w' := by
 have HG := Aside0.mk hG
 clear hG
 have hu26 := Tryz.underlying26
 have HR0 := Aside0.mk hr0
 have HC0 := Aside0.mk hc0
 clear hr0 hc0
 have HB := Aside0.mk (Below.refl w.heap.size w)
 unfold laws_grown.f at h
 have H := h
 clear h
 replace H := bA H
 obtain ⟨⟨t425, t428⟩, A2, H⟩ := H
 try dsimp only at H
 replace H := bA H
 obtain ⟨⟨t429, t432, t433⟩, A3, H⟩ := H
 try dsimp only at H
 replace H := bA H
 obtain ⟨⟨t435, t438, t439⟩, A4, H⟩ := H
 try dsimp only at H
 replace H := bA H
 obtain ⟨⟨t440, t443, t444⟩, A5, H⟩ := H
 try dsimp only at H
 replace H := bA H
 obtain ⟨⟨t445, t448, t449⟩, A6, H⟩ := H
 try dsimp only at H
 replace H := bA H
 obtain ⟨t450, A7, H⟩ := H
 try dsimp only at H
 obtain ⟨y451, hy451⟩ : ∃ y_ : List Int, y_ = (([(t450) % 256, 7] : List Int)) := ⟨_, rfl⟩
 replace H : ((impl_WriteAt.f k t445 t448 (⟨#[47, 100, 105, 114, 47, 111, 110, 101]⟩ : ByteArray) 0 y451).bind fun bt454 => ((laws_at.f l0 3).bind fun t459 => ((impl_WriteAt.f k bt454.1 bt454.2.1 (⟨#[47, 116, 111, 112]⟩ : ByteArray) (Int.tmod t459 50) (([101, 110, 100] : List Int))).bind fun bt463 => (if t433 = 0 then (if t439 = 0 then (if t444 = 0 then (if t449 = 0 then (if bt454.2.2 = 0 then (if bt463.2.2 = 0 then (some (bt463.1, bt463.2.1, ((bt463.1.length : Int) == 5))) else (none)) else (none)) else (none)) else (none)) else (none)) else (none))))) = some (r1, r2, r3) := by first | (rw [hy451]; with_reducible exact H) | (have H2_ := (Option.bind_some _ _).symm.trans H; rw [hy451]; with_reducible exact H2_) | (have H2_ := (Option.bind_some _ _).symm.trans H; with_reducible exact H2_) | with_reducible exact H | (rw [hy451]; exact H) | exact H
 have Ny451 := Aside0.mk hy451
 clear hy451
 replace H := bA H
 obtain ⟨⟨t454, t457, t458⟩, A8, H⟩ := H
 try dsimp only at H
 replace H := bA H
 obtain ⟨t459, A9, H⟩ := H
 try dsimp only at H
 obtain ⟨y460, hy460⟩ : ∃ y_ : List Int, y_ = (([101, 110, 100] : List Int)) := ⟨_, rfl⟩
 replace H : ((impl_WriteAt.f k t454 t457 (⟨#[47, 116, 111, 112]⟩ : ByteArray) (Int.tmod t459 50) y460).bind fun bt463 => (if t433 = 0 then (if t439 = 0 then (if t444 = 0 then (if t449 = 0 then (if t458 = 0 then (if bt463.2.2 = 0 then (some (bt463.1, bt463.2.1, ((bt463.1.length : Int) == 5))) else (none)) else (none)) else (none)) else (none)) else (none)) else (none))) = some (r1, r2, r3) := by first | (rw [hy460]; with_reducible exact H) | (have H2_ := (Option.bind_some _ _).symm.trans H; rw [hy460]; with_reducible exact H2_) | (have H2_ := (Option.bind_some _ _).symm.trans H; with_reducible exact H2_) | with_reducible exact H | (rw [hy460]; exact H) | exact H
 have Ny460 := Aside0.mk hy460
 clear hy460
 replace H := bA H
 obtain ⟨⟨t463, t466, t467⟩, A10, H⟩ := H
 try dsimp only at H
 by_cases c11 : t433 = 0
 ·rw [if_pos c11] at H
  have c11b0 : (t433 == 0) = true := beq_iff_eq.mpr c11
  have c11b1 : (t433 != 0) = false := bne_eq_false_iff_eq.mpr c11
  clear c11
  by_cases c12 : t439 = 0
  ·rw [if_pos c12] at H
   have c12b0 : (t439 == 0) = true := beq_iff_eq.mpr c12
   have c12b1 : (t439 != 0) = false := bne_eq_false_iff_eq.mpr c12
   clear c12
   by_cases c13 : t444 = 0
   ·rw [if_pos c13] at H
    have c13b0 : (t444 == 0) = true := beq_iff_eq.mpr c13
    have c13b1 : (t444 != 0) = false := bne_eq_false_iff_eq.mpr c13
    clear c13
    by_cases c14 : t449 = 0
    ·rw [if_pos c14] at H
     have c14b0 : (t449 == 0) = true := beq_iff_eq.mpr c14
     have c14b1 : (t449 != 0) = false := bne_eq_false_iff_eq.mpr c14
     clear c14
     by_cases c15 : t458 = 0
     ·rw [if_pos c15] at H
      have c15b0 : (t458 == 0) = true := beq_iff_eq.mpr c15
      have c15b1 : (t458 != 0) = false := bne_eq_false_iff_eq.mpr c15
      clear c15
      by_cases c16 : t467 = 0
      ·rw [if_pos c16] at H
       have c16b0 : (t467 == 0) = true := beq_iff_eq.mpr c16
       have c16b1 : (t467 != 0) = false := bne_eq_false_iff_eq.mpr c16
       clear c16
       simp only [Option.some.injEq, Prod.mk.injEq] at H
       obtain ⟨rfl, rfl, rfl⟩ := H
       go_enter Tryz.func21, Tryz.ntmps21
       try go_wp2_with (first | ((with_reducible refine gate_dst (N := 2) rfl ?_); (try (refine gate_guard (by rfl) ?_; dsimp only)); refine bx_ 2 #[.slice none 0 0, .int .i64 0] 26 ?_; intro gb424 hg w17 hbox hb; have BK424 := Aside0.mk (hbox); have GW424 := gs_ hg; replace HB := Aside0.mk (below_step oB hb); clear hb hbox hg) | ((with_reducible refine gate_callee (f := 12) rfl ?_); refine gl_ 12 Tryz.func12 (impl_TabNew.calls  t425 t428 _ A2.out) ?_; rintro e w18 ⟨v426, rfl, ho0, hb⟩; refine ⟨_, rfl, ?_⟩; have HO427 := Aside0.mk (Kd.S_lower ho0 (below_size oB)); replace BK424 := kb_ BK424 hb; replace HB := Aside0.mk (below_step oB hb); obtain ⟨Ao19, co19, eo19⟩ := Kd.S_slice HO427.out; subst eo19) | ((with_reducible refine gate_callee (f := 14) rfl ?_); refine gl_ 13 Tryz.func14 (impl_MakeDir.calls k _ _ t425 t428 (⟨#[47, 100, 105, 114]⟩ : ByteArray) t429 t432 t433 _ (rcS0 HO427) (rnS HO427) A3.out) ?_; rintro e w20 ⟨v430, rfl, ho0, hb⟩; refine ⟨_, rfl, ?_⟩; have HO431 := Aside0.mk (Kd.S_lower (Kd.S_new' ho0 (ltS0 HO427)) (below_size oB)); replace HO427 := elS0 HO427 (Kd.S_base ho0) hb; replace BK424 := kb_ BK424 hb; replace HB := Aside0.mk (below_step oB hb)) | ((with_reducible refine gate_dst (N := 4) rfl ?_); (try (refine gate_guard (by rfl) ?_; dsimp only)); refine bx_ 4 #[.slice none 0 0, .int .i64 0] 26 ?_; intro gb434 hg w21 hbox hb; have BK434 := Aside0.mk (hbox); have GW434 := gs_ hg; have NB424_434 := nl_ hg BK424; have NB434_424 := nr_ hg BK424; replace HO431 := beS0 HO431 hb; replace BK424 := kb_ BK424 hb; replace HB := Aside0.mk (below_step oB hb); clear hb hbox hg; obtain ⟨Ao22, co22, eo22⟩ := Kd.S_slice HO431.out; subst eo22; have hnb23 := NB434_424.out; have hnc23 := NB424_434.out; obtain ⟨⟨_, _⟩, _, _⟩ := z2 BK434) | ((with_reducible refine gate_callee (f := 15) rfl ?_); refine gl_ 18 Tryz.func15 (impl_MakeFile.calls k _ _ t429 t432 (⟨#[47, 100, 105, 114, 47, 111, 110, 101]⟩ : ByteArray) t435 t438 t439 _ (rcS1 HO431 BK434) (rnS HO431) A4.out) ?_; rintro e w25 ⟨v436, rfl, ho0, hb⟩; refine ⟨_, rfl, ?_⟩; have HO437 := Aside0.mk (Kd.S_lower (Kd.S_new' ho0 (ltS1 HO431 BK434)) (below_size oB)); replace HO431 := elS1 HO431 BK434 (Kd.S_base ho0) hb; replace BK424 := kb_ BK424 hb; replace BK434 := kp_ #[.slice Ao22 t429.length co22, .int .i64 t432] BK434 hb; replace HB := Aside0.mk (below_step oB hb); (try clear hk); obtain ⟨Ao26, co26, eo26⟩ := Kd.S_slice HO437.out; subst eo26; obtain ⟨⟨_, _⟩, _, _⟩ := z2 BK434) | ((with_reducible refine gate_callee (f := 15) rfl ?_); refine gl_ 23 Tryz.func15 (impl_MakeFile.calls k _ _ t435 t438 (⟨#[47, 100, 105, 114, 47, 116, 119, 111]⟩ : ByteArray) t440 t443 t444 _ (rcS1 HO437 BK434) (rnS HO437) A5.out) ?_; rintro e w28 ⟨v441, rfl, ho0, hb⟩; refine ⟨_, rfl, ?_⟩; have HO442 := Aside0.mk (Kd.S_lower (Kd.S_new' ho0 (ltS1 HO437 BK434)) (below_size oB)); replace HO437 := elS1 HO437 BK434 (Kd.S_base ho0) hb; replace BK424 := kb_ BK424 hb; replace BK434 := kp_ #[.slice Ao26 t435.length co26, .int .i64 t438] BK434 hb; replace HB := Aside0.mk (below_step oB hb); (try clear hk); obtain ⟨Ao29, co29, eo29⟩ := Kd.S_slice HO442.out; subst eo29; obtain ⟨⟨_, _⟩, _, _⟩ := z2 BK434) | ((with_reducible refine gate_callee (f := 15) rfl ?_); refine gl_ 28 Tryz.func15 (impl_MakeFile.calls k _ _ t440 t443 (⟨#[47, 116, 111, 112]⟩ : ByteArray) t445 t448 t449 _ (rcS1 HO442 BK434) (rnS HO442) A6.out) ?_; rintro e w31 ⟨v446, rfl, ho0, hb⟩; refine ⟨_, rfl, ?_⟩; have HO447 := Aside0.mk (Kd.S_lower (Kd.S_new' ho0 (ltS1 HO442 BK434)) (below_size oB)); replace HO442 := elS1 HO442 BK434 (Kd.S_base ho0) hb; replace BK424 := kb_ BK424 hb; replace BK434 := kp_ #[.slice Ao29 t440.length co29, .int .i64 t443] BK434 hb; replace HB := Aside0.mk (below_step oB hb); (try clear hk); obtain ⟨Ao32, co32, eo32⟩ := Kd.S_slice HO447.out; subst eo32; obtain ⟨⟨_, _⟩, _, _⟩ := z2 BK434))
       have n0_ : Aside0 (Kd.S k51 51 ((w31.setCell ⟨gb434, 0, none⟩ (.slice Ao32 t445.length co32)).setCell ⟨gb434, 1, none⟩ (.int .i64 t448)) w.heap.size (fun _ => True) (.slice Ao32 t445.length co32) t445) := ⟨by (with_reducible repeat (first | apply Kd.S_alloc | apply Kd.S_drewN | apply Kd.S_drew)); exact Kd.S_mono (Kd.S_far (p := ⟨gb434, 1, none⟩) (Kd.S_far (p := ⟨gb434, 0, none⟩) (Kd.S_types HO447.out BK434.out (by decide)) (fun _ hk => hk.2) (.slice Ao32 t445.length co32)) (fun _ hk => hk.2) (.int .i64 t448)) (fun _ hk => trivial)⟩
       have n1_ : Aside0 (((w31.setCell ⟨gb434, 0, none⟩ (.slice Ao32 t445.length co32)).setCell ⟨gb434, 1, none⟩ (.int .i64 t448)).heap[gb424]? = some (.cells #[.slice none 0 0, .int .i64 0] 26 (0, 0))) := ⟨oF BK424⟩
       have n2_ : Aside0 (((w31.setCell ⟨gb434, 0, none⟩ (.slice Ao32 t445.length co32)).setCell ⟨gb434, 1, none⟩ (.int .i64 t448)).heap[gb434]? = some (.cells #[.slice Ao32 t445.length co32, .int .i64 t448] 26 (0, 0))) := ⟨oP BK434⟩
       have n3_ : Aside0 (Below w.heap.size w ((w31.setCell ⟨gb434, 0, none⟩ (.slice Ao32 t445.length co32)).setCell ⟨gb434, 1, none⟩ (.int .i64 t448))) := ⟨oB⟩
       (try clear HO447)
       (try clear BK424)
       (try clear BK434)
       (try clear HB)
       generalize ((w31.setCell ⟨gb434, 0, none⟩ (.slice Ao32 t445.length co32)).setCell ⟨gb434, 1, none⟩ (.int .i64 t448)) = w34 at n0_ n1_ n2_ n3_ ⊢
       have HO447 := n0_
       have BK424 := n1_
       have BK434 := n2_
       have HB := n3_
       clear n0_ n1_ n2_ n3_
       replace HO447 := Aside0.mk (Kd.S_drew HO447.out)
       replace BK424 := Aside0.mk (blk_drew BK424.out)
       replace BK434 := Aside0.mk (blk_drew BK434.out)
       replace HB := Aside0.mk (below_drew1 HB.out)
       refine start_ (n := 11) (S := fun w' => w'.cell? ⟨gb434, 0, none⟩ = some (.slice Ao32 t445.length co32) ∧ w'.cell? ⟨gb434, 1, none⟩ = some (.int .i64 t448)) (ds := [9]) (lb 11 0) (by kernel_rfl) rfl rfl oH (fun hHeld => ?_); refine with_tabW laws_grown.tab5 laws_grown.bits5 (fun HT_ HW_ => ?_)
       generalize w34.drew = w35 at HO447 BK424 BK434 HB hHeld ⊢
       refine pu_ 1 33 HT_ ?_
       refine ta_ 0 32 HT_ HW_ hHeld ?_
       refine on_ 2 34 HT_ (fun K hK => ?_)
       refine gr_ 34 Tryz.func20 (laws_at.calls _ _ l0 2 t450 _ (kC HR0) HC0.out A7.out) ?_
       rintro e w' ⟨rfl, ⟨nd, rfl⟩⟩
       refine ⟨_, rfl, ?_⟩
       refine hk_ hK 34 oH (fun hHeld => ?_)
       clear hK K
       refine pu_ 3 35 HT_ ?_
       refine on_ 4 36 HT_ (fun K hK => ?_)
       refine Kd.R_lit_step (Kd.int .u8) _ 5 ?hg (N := 36) ?hd (xs := ([(t450) % 256, 7] : List Int)) (inner := [.int .u8 ((t450) % 256), .int .u8 7]) (ok := fun _ => True) (okp := fun _ => True) ?hr ?hp (fun _ hk => hk) trivial (Below.refl _ _) (Nat.le_refl _) (by simp) ?_; (case hd => rfl); (case hg => rfl); (case hr => first | (go_simp; done) | (go_simp; rfl)); (case hp => exact (Reps.one (show Kd.M (Kd.int .u8) _ _ _ ((t450) % 256) [.int .u8 ((t450) % 256)] from rfl) (Reps.one (show Kd.M (Kd.int .u8) _ _ _ 7 [.int .u8 7] from rfl) (Reps.none _ _))))
       intro v452 w36 ho37 hb hg_ hnew_
       clear hg_ hnew_
       (first | rw [← Ny451.out] at ho37 | (simp only [Int.reduceToNat] at ho37; rw [← Ny451.out] at ho37))
       have HO453 := Aside0.mk (Kd.R_lower ho37 (below_size oB))
       replace HO447 := elS0 HO447 (Kd.R_base ho37) hb
       replace BK424 := kb_ BK424 hb
       replace BK434 := kb_ BK434 hb
       replace HB := Aside0.mk (below_step oB hb)
       clear hb ho37
       obtain ⟨Ao38, co38, eo38⟩ := Kd.R_slice HO453.out
       (first | subst eo38 | (injection eo38 with f1_ f2_ f3_; have f4_ := f1_.symm; have f5_ := f3_.symm; clear f1_ f2_ f3_; subst f4_; subst f5_))
       refine hk_ hK 36 oH (fun hHeld => ?_)
       clear hK K
       refine on_ 5 37 HT_ (fun K hK => ?_)
       refine gr_ 37 Tryz.func22 (impl_WriteAt.calls k _ _ t445 t448 (⟨#[47, 100, 105, 114, 47, 111, 110, 101]⟩ : ByteArray) 0 _ _ y451 t454 t457 t458 _ (rcS0 HO447) (rnS HO447) (kO HO453) (ko HO453) A8.out) ?_
       rintro e w39 ⟨v455, rfl, ho0, hb⟩
       refine ⟨_, rfl, ?_⟩
       have HO456 := Aside0.mk (Kd.S_lower (Kd.S_new' (Kd.S_new' ho0 (ltS0 HO447)) (kl_ HO453)) (below_size oB))
       replace HO447 := elS0 HO447 (Kd.S_base ho0) hb
       replace HO453 := kr_ HO453 hb
       replace BK424 := kb_ BK424 hb
       replace BK434 := kb_ BK434 hb
       replace HB := Aside0.mk (below_step oB hb)
       obtain ⟨Ao40, co40, eo40⟩ := Kd.S_slice HO456.out
       (first | subst eo40 | (injection eo40 with f1_ f2_ f3_; have f4_ := f1_.symm; have f5_ := f3_.symm; clear f1_ f2_ f3_; subst f4_; subst f5_))
       refine hk_ hK 37 oH (fun hHeld => ?_)
       clear hK K
       refine pu_ 6 31 HT_ ?_
       refine pu_ 7 38 HT_ ?_
       refine pu_ 8 39 HT_ ?_
       refine last_ (i := 9) (N := none) (lb 11 1023) rfl rfl (one_of HT_.out (by kernel_rfl)) (by decide) (fun K hK => ?_)
       have hs41 : w39.cell? ⟨gb434, 0, none⟩ = some (.slice Ao32 t445.length co32) := (blk_cell BK434.out 0).trans rfl
       have hfs41 := blk_frozen BK434.out 0
       have hns41_0 := NB424_434.out
       have hms41_0 := NB434_424.out
       have hs42 : w39.cell? ⟨gb434, 1, none⟩ = some (.int .i64 t448) := (blk_cell BK434.out 1).trans rfl
       have hfs42 := blk_frozen BK434.out 1
       have hns42_0 := NB424_434.out
       have hms42_0 := NB434_424.out
       refine skip_ (w1 := ?_) (by rfl) rfl ?_ ?_
       rotate_left
       ·go_simp
        rfl
       refine hK.out _ _ ?_
       clear hK K
       refine pu_ 10 9 HT_ ?_
       refine dn_ HT_ ?_
       try go_wp2
       have n0_ : Aside0 (Kd.S k51 51 ((w39.setCell ⟨gb434, 0, none⟩ (.slice Ao40 t454.length co40)).setCell ⟨gb434, 1, none⟩ (.int .i64 t457)) w.heap.size (fun _ => True) (.slice Ao40 t454.length co40) t454) := ⟨by (with_reducible repeat (first | apply Kd.S_alloc | apply Kd.S_drewN | apply Kd.S_drew)); exact Kd.S_mono (Kd.S_far (p := ⟨gb434, 1, none⟩) (Kd.S_far (p := ⟨gb434, 0, none⟩) (Kd.S_types HO456.out BK434.out (by decide)) (fun _ hk => hk.2) (.slice Ao40 t454.length co40)) (fun _ hk => hk.2) (.int .i64 t457)) (fun _ hk => trivial)⟩
       have n1_ : Aside0 (((w39.setCell ⟨gb434, 0, none⟩ (.slice Ao40 t454.length co40)).setCell ⟨gb434, 1, none⟩ (.int .i64 t457)).heap[gb424]? = some (.cells #[.slice none 0 0, .int .i64 0] 26 (0, 0))) := ⟨oF BK424⟩
       have n2_ : Aside0 (((w39.setCell ⟨gb434, 0, none⟩ (.slice Ao40 t454.length co40)).setCell ⟨gb434, 1, none⟩ (.int .i64 t457)).heap[gb434]? = some (.cells #[.slice Ao40 t454.length co40, .int .i64 t457] 26 (0, 0))) := ⟨oP BK434⟩
       have n3_ : Aside0 (Below w.heap.size w ((w39.setCell ⟨gb434, 0, none⟩ (.slice Ao40 t454.length co40)).setCell ⟨gb434, 1, none⟩ (.int .i64 t457))) := ⟨oB⟩
       (try clear HO456)
       (try clear BK424)
       (try clear BK434)
       (try clear HB)
       generalize ((w39.setCell ⟨gb434, 0, none⟩ (.slice Ao40 t454.length co40)).setCell ⟨gb434, 1, none⟩ (.int .i64 t457)) = w43 at n0_ n1_ n2_ n3_ ⊢
       have HO456 := n0_
       have BK424 := n1_
       have BK434 := n2_
       have HB := n3_
       clear n0_ n1_ n2_ n3_
       replace HO456 := Aside0.mk (Kd.S_drew HO456.out)
       replace BK424 := Aside0.mk (blk_drew BK424.out)
       replace BK434 := Aside0.mk (blk_drew BK434.out)
       replace HB := Aside0.mk (below_drew1 HB.out)
       refine start_ (n := 12) (S := fun w' => w'.cell? ⟨gb434, 0, none⟩ = some (.slice Ao40 t454.length co40) ∧ w'.cell? ⟨gb434, 1, none⟩ = some (.int .i64 t457)) (ds := [10]) (lb 12 0) (by kernel_rfl) rfl rfl oH (fun hHeld => ?_); refine with_tabW laws_grown.tab6 laws_grown.bits6 (fun HT_ HW_ => ?_)
       generalize w43.drew = w44 at HO456 BK424 BK434 HB hHeld ⊢
       refine pu_ 1 42 HT_ ?_
       refine ta_ 0 41 HT_ HW_ hHeld ?_
       refine join_ (σ := Value) 6 (lb 12 63) (fun s_ => [(43, .int .i64 t459), (45, s_), (44, .int .i64 (Int.tmod t459 50)), (46, s_)]) (fun s_ w' => (w'.cell? ⟨gb434, 0, none⟩ = some (.slice Ao40 t454.length co40) ∧ w'.cell? ⟨gb434, 1, none⟩ = some (.int .i64 t457)) ∧ (Kd.S k51 51 w' w.heap.size (fun k_ => some k_ ≠ (s_ : Value).ownBlock) (.slice Ao40 t454.length co40) t454) ∧ (∃ A_ c_, s_ = .slice A_ y460.length c_ ∧ y460.length ≤ c_ ∧ Kd.C (Kd.int .u8) w' A_ y460.length y460) ∧ (w'.heap[gb424]? = some (.cells #[.slice none 0 0, .int .i64 0] 26 (0, 0))) ∧ (w'.heap[gb434]? = some (.cells #[.slice Ao40 t454.length co40, .int .i64 t457] 26 (0, 0))) ∧ (Below w.heap.size w w')) ?_ ?_
       rotate_left
       ·intro hCont
        refine two_ (i := 2) (j := 4) (Ni := some 43) (Nj := some 45) (lb 12 7) (lb 12 19) rfl rfl rfl rfl (two_of HT_.out (by kernel_rfl)) (by decide) (by decide) (fun K hK => ?_) (fun K hK => ?_)
        ·skip
         refine gr_ 43 Tryz.func20 (laws_at.calls _ _ l0 3 t459 _ (kC HR0) HC0.out A9.out) ?_
         rintro e w' ⟨rfl, ⟨nd, rfl⟩⟩
         refine ⟨_, rfl, ?_⟩
         refine hk_ hK 43 oH (fun hHeld => ?_)
         clear hK K
         refine pu_ 3 44 HT_ ?_
         refine on_ 4 45 HT_ (fun K hK => ?_)
         refine Kd.R_lit_step (Kd.int .u8) _ 5 ?hg (N := 45) ?hd (xs := ([101, 110, 100] : List Int)) (inner := [.int .u8 101, .int .u8 110, .int .u8 100]) (ok := fun _ => True) (okp := fun _ => True) ?hr ?hp (fun _ hk => hk) trivial (Below.refl _ _) (Nat.le_refl _) (by simp) ?_; (case hd => rfl); (case hg => rfl); (case hr => first | (go_simp; done) | (go_simp; rfl)); (case hp => exact (Reps.one (show Kd.M (Kd.int .u8) _ _ _ 101 [.int .u8 101] from rfl) (Reps.one (show Kd.M (Kd.int .u8) _ _ _ 110 [.int .u8 110] from rfl) (Reps.one (show Kd.M (Kd.int .u8) _ _ _ 100 [.int .u8 100] from rfl) (Reps.none _ _)))))
         intro v461 w45 ho46 hb hg_ hnew_
         clear hg_ hnew_
         (first | rw [← Ny460.out] at ho46 | (simp only [Int.reduceToNat] at ho46; rw [← Ny460.out] at ho46))
         have HO462 := Aside0.mk (Kd.R_lower ho46 (below_size oB))
         replace HO456 := elS0 HO456 (Kd.R_base ho46) hb
         replace BK424 := kb_ BK424 hb
         replace BK434 := kb_ BK434 hb
         replace HB := Aside0.mk (below_step oB hb)
         clear hb ho46
         obtain ⟨Ar_461, cr_461, er_⟩ := Kd.R_slice HO462.out
         subst er_
         refine hk_ hK 45 oH (fun hHeld => ?_)
         clear hK K
         refine on_ 5 46 HT_ (fun K hK => ?_)
         obtain ⟨wm_, hcv_, hgm_, hCm_⟩ := mark_ (W := w45) Tryz.underlying22 Tryz.underlying5 (oR HO462) (by rw [Ny460.out]; decide)
         refine event_step (w1 := wm_) (v := .slice Ar_461 y460.length cr_461) (by rfl) (by go_simp) ?_
         have HC462 := Aside0.mk (ko HO462)
         have HR462 := Aside0.mk hCm_
         replace HO456 := Aside0.mk (Kd.S_grown (nS0 HO456) hgm_ (fun _ hk => hk.2))
         replace BK424 := bg_ BK424 hgm_ (oR HO462)
         replace BK434 := bg_ BK434 hgm_ (oR HO462)
         replace HB := Aside0.mk (Below.grown (oB : Below w.heap.size w (w45)) hgm_ (below_size oB) (Kd.R_base (oR HO462 : Kd.R (Kd.int .u8) 5 (w45) w.heap.size _ _ _)))
         clear hCm_ hgm_ hcv_ HO462
         refine hk_ hK 46 oH (fun hHeld => ?_)
         clear hK K
         exact norm_ (by simp only [putAll, Act.put, List.setIfInBounds_toArray, List.set_cons_zero, List.set_cons_succ]) (hCont ((.slice Ar_461 y460.length cr_461)) _ ⟨hHeld, (by (with_reducible repeat (first | apply Kd.S_alloc | apply Kd.S_drewN | apply Kd.S_drew)); exact Kd.S_mono HO456.out (fun _ hk => hk.2)), ⟨_, _, rfl, HC462.out, (kD HR462)⟩, (oF BK424), (oF BK434), oB⟩)
        ·skip
         refine Kd.R_lit_step (Kd.int .u8) _ 5 ?hg (N := 45) ?hd (xs := ([101, 110, 100] : List Int)) (inner := [.int .u8 101, .int .u8 110, .int .u8 100]) (ok := fun _ => True) (okp := fun _ => True) ?hr ?hp (fun _ hk => hk) trivial (Below.refl _ _) (Nat.le_refl _) (by simp) ?_; (case hd => rfl); (case hg => rfl); (case hr => first | (go_simp; done) | (go_simp; rfl)); (case hp => exact (Reps.one (show Kd.M (Kd.int .u8) _ _ _ 101 [.int .u8 101] from rfl) (Reps.one (show Kd.M (Kd.int .u8) _ _ _ 110 [.int .u8 110] from rfl) (Reps.one (show Kd.M (Kd.int .u8) _ _ _ 100 [.int .u8 100] from rfl) (Reps.none _ _)))))
         intro v461 w45 ho46 hb hg_ hnew_
         clear hg_ hnew_
         (first | rw [← Ny460.out] at ho46 | (simp only [Int.reduceToNat] at ho46; rw [← Ny460.out] at ho46))
         have HO462 := Aside0.mk (Kd.R_lower ho46 (below_size oB))
         replace HO456 := elS0 HO456 (Kd.R_base ho46) hb
         replace BK424 := kb_ BK424 hb
         replace BK434 := kb_ BK434 hb
         replace HB := Aside0.mk (below_step oB hb)
         clear hb ho46
         obtain ⟨Ar_461, cr_461, er_⟩ := Kd.R_slice HO462.out
         subst er_
         refine hk_ hK 45 oH (fun hHeld => ?_)
         clear hK K
         refine two_ (i := 2) (j := 5) (Ni := some 43) (Nj := some 46) (lb 12 23) (lb 12 51) rfl rfl rfl rfl (two_of HT_.out (by kernel_rfl)) (by decide) (by decide) (fun K hK => ?_) (fun K hK => ?_)
         ·skip
          refine gr_ 43 Tryz.func20 (laws_at.calls _ _ l0 3 t459 _ (kC HR0) HC0.out A9.out) ?_
          rintro e w' ⟨rfl, ⟨nd, rfl⟩⟩
          refine ⟨_, rfl, ?_⟩
          refine hk_ hK 43 oH (fun hHeld => ?_)
          clear hK K
          refine pu_ 3 44 HT_ ?_
          refine on_ 5 46 HT_ (fun K hK => ?_)
          obtain ⟨wm_, hcv_, hgm_, hCm_⟩ := mark_ (W := w45.drewN nd) Tryz.underlying22 Tryz.underlying5 (oR HO462) (by rw [Ny460.out]; decide)
          refine event_step (w1 := wm_) (v := .slice Ar_461 y460.length cr_461) (by rfl) (by go_simp) ?_
          have HC462 := Aside0.mk (ko HO462)
          have HR462 := Aside0.mk hCm_
          replace HO456 := Aside0.mk (Kd.S_grown (nS0 HO456) hgm_ (fun _ hk => hk.2))
          replace BK424 := bg_ BK424 hgm_ (oR HO462)
          replace BK434 := bg_ BK434 hgm_ (oR HO462)
          replace HB := Aside0.mk (Below.grown (oB : Below w.heap.size w (w45.drewN nd)) hgm_ (below_size oB) (Kd.R_base (oR HO462 : Kd.R (Kd.int .u8) 5 (w45.drewN nd) w.heap.size _ _ _)))
          clear hCm_ hgm_ hcv_ HO462
          refine hk_ hK 46 oH (fun hHeld => ?_)
          clear hK K
          exact norm_ (by simp only [putAll, Act.put, List.setIfInBounds_toArray, List.set_cons_zero, List.set_cons_succ]) (hCont ((.slice Ar_461 y460.length cr_461)) _ ⟨hHeld, (by (with_reducible repeat (first | apply Kd.S_alloc | apply Kd.S_drewN | apply Kd.S_drew)); exact Kd.S_mono HO456.out (fun _ hk => hk.2)), ⟨_, _, rfl, HC462.out, (kD HR462)⟩, (oF BK424), (oF BK434), oB⟩)
         ·skip
          obtain ⟨wm_, hcv_, hgm_, hCm_⟩ := mark_ (W := w45) Tryz.underlying22 Tryz.underlying5 (oR HO462) (by rw [Ny460.out]; decide)
          refine event_step (w1 := wm_) (v := .slice Ar_461 y460.length cr_461) (by rfl) (by go_simp) ?_
          have HC462 := Aside0.mk (ko HO462)
          have HR462 := Aside0.mk hCm_
          replace HO456 := Aside0.mk (Kd.S_grown (nS0 HO456) hgm_ (fun _ hk => hk.2))
          replace BK424 := bg_ BK424 hgm_ (oR HO462)
          replace BK434 := bg_ BK434 hgm_ (oR HO462)
          replace HB := Aside0.mk (Below.grown (oB : Below w.heap.size w (w45)) hgm_ (below_size oB) (Kd.R_base (oR HO462 : Kd.R (Kd.int .u8) 5 (w45) w.heap.size _ _ _)))
          clear hCm_ hgm_ hcv_ HO462
          refine hk_ hK 46 oH (fun hHeld => ?_)
          clear hK K
          refine on_ 2 43 HT_ (fun K hK => ?_)
          refine gr_ 43 Tryz.func20 (laws_at.calls _ _ l0 3 t459 _ (kC HR0) HC0.out A9.out) ?_
          rintro e w' ⟨rfl, ⟨nd, rfl⟩⟩
          refine ⟨_, rfl, ?_⟩
          refine hk_ hK 43 oH (fun hHeld => ?_)
          clear hK K
          refine pu_ 3 44 HT_ ?_
          exact norm_ (by simp only [putAll, Act.put, List.setIfInBounds_toArray, List.set_cons_zero, List.set_cons_succ]) (hCont ((.slice Ar_461 y460.length cr_461)) _ ⟨hHeld, (by (with_reducible repeat (first | apply Kd.S_alloc | apply Kd.S_drewN | apply Kd.S_drew)); exact Kd.S_mono HO456.out (fun _ hk => hk.2)), ⟨_, _, rfl, HC462.out, (kD HR462)⟩, (oF BK424), (oF BK434), oB⟩)
       rintro v461 w47 ⟨hS_, h0_, h1_, h2_, h3_, h4_⟩
       have n0_ : Aside0 (Kd.S k51 51 w47 w.heap.size (fun k_ => some k_ ≠ (v461 : Value).ownBlock) (.slice Ao40 t454.length co40) t454) := ⟨h0_⟩
       obtain ⟨Ao48, co48, er_, hc_, h1_⟩ := h1_
       have n1_ : Aside0 (Kd.C (Kd.int .u8) w47 Ao48 y460.length y460) := ⟨h1_⟩
       have HC462 := Aside0.mk hc_
       have n2_ : Aside0 (w47.heap[gb424]? = some (.cells #[.slice none 0 0, .int .i64 0] 26 (0, 0))) := ⟨h2_⟩
       have n3_ : Aside0 (w47.heap[gb434]? = some (.cells #[.slice Ao40 t454.length co40, .int .i64 t457] 26 (0, 0))) := ⟨h3_⟩
       have n4_ : Aside0 (Below w.heap.size w w47) := ⟨h4_⟩
       clear HO456
       clear BK424
       clear BK434
       clear HB
       clear h0_ h1_ h2_ h3_ h4_
       have HO456 := n0_
       have HR462 := n1_
       have BK424 := n2_
       have BK434 := n3_
       have HB := n4_
       clear n0_ n1_ n2_ n3_ n4_
       have hHeld : w47.cell? ⟨gb434, 0, none⟩ = some (.slice Ao40 t454.length co40) ∧ w47.cell? ⟨gb434, 1, none⟩ = some (.int .i64 t457) := hS_
       subst er_
       refine norm_ (a' := ?_) ?_ ?_
       rotate_left
       ·simp only [putAll, Act.put, List.setIfInBounds_toArray, List.set_cons_zero, List.set_cons_succ]
        rfl
       refine on_ 6 47 HT_ (fun K hK => ?_)
       refine gr_ 47 Tryz.func22 (impl_WriteAt.calls k _ _ t454 t457 (⟨#[47, 116, 111, 112]⟩ : ByteArray) (Int.tmod t459 50) _ _ y460 t463 t466 t467 _ (rcS0 HO456) (rnS HO456) (kD HR462) HC462.out A10.out) ?_
       rintro e w49 ⟨v464, rfl, ho0, hb⟩
       refine ⟨_, rfl, ?_⟩
       have HO465 := Aside0.mk (Kd.S_lower (Kd.S_mono (Kd.S_new' ho0 (ltS0 HO456)) (fun _ h_ => (⟨h_, trivial⟩ : _ ∧ True))) (below_size oB))
       replace HO456 := elS0 HO456 (Kd.S_base ho0) hb
       replace BK424 := kb_ BK424 hb
       replace BK434 := kb_ BK434 hb
       replace HB := Aside0.mk (below_step oB hb)
       obtain ⟨Ao50, co50, eo50⟩ := Kd.S_slice HO465.out
       (first | subst eo50 | (injection eo50 with f1_ f2_ f3_; have f4_ := f1_.symm; have f5_ := f3_.symm; clear f1_ f2_ f3_; subst f4_; subst f5_))
       refine hk_ hK 47 oH (fun hHeld => ?_)
       clear hK K
       refine pu_ 7 40 HT_ ?_
       refine pu_ 8 48 HT_ ?_
       refine pu_ 9 49 HT_ ?_
       refine last_ (i := 10) (N := none) (lb 12 2047) rfl rfl (one_of HT_.out (by kernel_rfl)) (by decide) (fun K hK => ?_)
       have hs51 : w49.cell? ⟨gb434, 0, none⟩ = some (.slice Ao40 t454.length co40) := (blk_cell BK434.out 0).trans rfl
       have hfs51 := blk_frozen BK434.out 0
       have hns51_0 := NB424_434.out
       have hms51_0 := NB434_424.out
       have hs52 : w49.cell? ⟨gb434, 1, none⟩ = some (.int .i64 t457) := (blk_cell BK434.out 1).trans rfl
       have hfs52 := blk_frozen BK434.out 1
       have hns52_0 := NB424_434.out
       have hms52_0 := NB434_424.out
       refine skip_ (w1 := ?_) (by rfl) rfl ?_ ?_
       rotate_left
       ·go_simp
        rfl
       refine hK.out _ _ ?_
       clear hK K
       refine pu_ 11 10 HT_ ?_
       refine dn_ HT_ ?_
       try go_wp2
       have n0_ : Aside0 (Kd.S k51 51 ((w49.setCell ⟨gb434, 0, none⟩ (.slice Ao50 t463.length co50)).setCell ⟨gb434, 1, none⟩ (.int .i64 t466)) w.heap.size (fun _ => True) (.slice Ao50 t463.length co50) t463) := ⟨by (with_reducible repeat (first | apply Kd.S_alloc | apply Kd.S_drewN | apply Kd.S_drew)); exact Kd.S_mono (Kd.S_far (p := ⟨gb434, 1, none⟩) (Kd.S_far (p := ⟨gb434, 0, none⟩) (Kd.S_types HO465.out BK434.out (by decide)) (fun _ hk => hk.2) (.slice Ao50 t463.length co50)) (fun _ hk => hk.2) (.int .i64 t466)) (fun _ hk => trivial)⟩
       have n1_ : Aside0 (((w49.setCell ⟨gb434, 0, none⟩ (.slice Ao50 t463.length co50)).setCell ⟨gb434, 1, none⟩ (.int .i64 t466)).heap[gb424]? = some (.cells #[.slice none 0 0, .int .i64 0] 26 (0, 0))) := ⟨oF BK424⟩
       have n2_ : Aside0 (((w49.setCell ⟨gb434, 0, none⟩ (.slice Ao50 t463.length co50)).setCell ⟨gb434, 1, none⟩ (.int .i64 t466)).heap[gb434]? = some (.cells #[.slice Ao50 t463.length co50, .int .i64 t466] 26 (0, 0))) := ⟨oP BK434⟩
       have n3_ : Aside0 (Below w.heap.size w ((w49.setCell ⟨gb434, 0, none⟩ (.slice Ao50 t463.length co50)).setCell ⟨gb434, 1, none⟩ (.int .i64 t466))) := ⟨oB⟩
       (try clear HO465)
       (try clear BK424)
       (try clear BK434)
       (try clear HB)
       generalize ((w49.setCell ⟨gb434, 0, none⟩ (.slice Ao50 t463.length co50)).setCell ⟨gb434, 1, none⟩ (.int .i64 t466)) = w53 at n0_ n1_ n2_ n3_ ⊢
       have HO465 := n0_
       have BK424 := n1_
       have BK434 := n2_
       have HB := n3_
       clear n0_ n1_ n2_ n3_
       replace HO465 := Aside0.mk (Kd.S_drew HO465.out)
       replace BK424 := Aside0.mk (blk_drew BK424.out)
       replace BK434 := Aside0.mk (blk_drew BK434.out)
       replace HB := Aside0.mk (below_drew1 HB.out)
       refine st_ 31 (fun w' => w'.cell? ⟨gb434, 0, none⟩ = some (.slice Ao50 t463.length co50) ∧ w'.cell? ⟨gb434, 1, none⟩ = some (.int .i64 t466)) laws_grown.tab7 laws_grown.bits7 oH (fun hHeld HT_ HW_ => ?_)
       generalize w53.drew = w54 at HO465 BK424 BK434 HB hHeld ⊢
       refine pu_ 1 51 HT_ ?_
       refine pu_ 2 52 HT_ ?_
       refine pu_ 3 53 HT_ ?_
       refine pu_ 4 54 HT_ ?_
       refine pu_ 5 55 HT_ ?_
       refine pu_ 6 56 HT_ ?_
       refine pu_ 7 57 HT_ ?_
       refine pu_ 8 58 HT_ ?_
       refine pu_ 9 59 HT_ ?_
       refine pu_ 10 60 HT_ ?_
       refine pu_ 11 61 HT_ ?_
       refine pu_ 12 62 HT_ ?_
       refine pu_ 13 63 HT_ ?_
       refine pu_ 14 64 HT_ ?_
       refine pu_ 15 65 HT_ ?_
       refine pu_ 16 66 HT_ ?_
       refine pu_ 17 67 HT_ ?_
       refine pu_ 18 68 HT_ ?_
       refine pu_ 19 69 HT_ ?_
       refine pu_ 20 70 HT_ ?_
       refine pu_ 21 71 HT_ ?_
       refine pu_ 22 72 HT_ ?_
       refine pu_ 23 73 HT_ ?_
       refine pu_ 24 74 HT_ ?_
       refine ta_ 0 50 HT_ HW_ hHeld ?_
       refine ta_ 25 75 HT_ HW_ hHeld ?_
       refine pu_ 26 76 HT_ ?_
       refine pu_ 27 77 HT_ ?_
       refine pu_ 28 78 HT_ ?_
       refine one_ (i := 29) (N := none) (lb 31 1073741823) rfl rfl (one_of HT_.out (by kernel_rfl)) (by decide) (fun K hK => ?_)
       have hs55 : w54.cell? ⟨gb424, 0, none⟩ = some (.slice none 0 0) := (blk_cell BK424.out 0).trans rfl
       have hfs55 := blk_frozen BK424.out 0
       have hns55_1 := NB434_424.out
       have hms55_1 := NB424_434.out
       have hs56 : w54.cell? ⟨gb424, 1, none⟩ = some (.int .i64 0) := (blk_cell BK424.out 1).trans rfl
       have hfs56 := blk_frozen BK424.out 1
       have hns56_1 := NB434_424.out
       have hms56_1 := NB424_434.out
       refine skip_ (w1 := ?_) (by rfl) rfl ?_ ?_
       rotate_left
       ·go_simp
        rfl
       refine hK.out _ _ ⟨((cell_far (p := ⟨gb424, _, none⟩) NB434_424.out _).trans (((cell_far (p := ⟨gb424, _, none⟩) NB434_424.out _).trans (hHeld.1)))), ((cell_far (p := ⟨gb424, _, none⟩) NB434_424.out _).trans (((cell_far (p := ⟨gb424, _, none⟩) NB434_424.out _).trans (hHeld.2))))⟩ (fun hHeld => ?_)
       clear hK K
       refine pu_ 30 3 HT_ ?_
       refine dn_ HT_ ?_
       try go_wp2
       refine bodyPost_ret (results_ct rfl _ _ gb424 26 #[.slice Ao50 t463.length co50, .int .i64 t466] (0, 0) _ rfl (oP BK424) Tryz.underlying26 rfl (by kernel_rfl)) rfl ?_
       exact ⟨_, oE, by (with_reducible repeat (first | apply Kd.S_alloc | apply Kd.S_drewN | apply Kd.S_drew)); exact Kd.S_mono (Kd.S_far (p := ⟨gb424, 1, none⟩) (Kd.S_far (p := ⟨gb424, 0, none⟩) (Kd.S_types HO465.out BK424.out (by decide)) (fun _ hk => hk.2) (.slice Ao50 t463.length co50)) (fun _ hk => hk.2) (.int .i64 t466)) (fun _ hk => trivial), oB⟩
      ·rw [if_neg c16] at H
       cases H
     ·rw [if_neg c15] at H
      cases H
    ·rw [if_neg c14] at H
     cases H
   ·rw [if_neg c13] at H
    cases H
  ·rw [if_neg c12] at H
   cases H
 ·rw [if_neg c11] at H
  cases H
end Go.Proofs.YtkcfmbggdkkfeaaGreatDoor.P
