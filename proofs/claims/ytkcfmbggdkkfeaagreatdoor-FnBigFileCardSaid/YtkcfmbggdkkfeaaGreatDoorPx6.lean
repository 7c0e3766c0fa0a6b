-- By this session's own program (wip/myprint.py) out of the translation; Lean checks it.
import Derived.Test.YtkcfmbggdkkfeaaGreatDoorPx0
import Derived.Test.YtkcfmbggdkkfeaaGreatDoorPx1
import Derived.Test.YtkcfmbggdkkfeaaGreatDoorPx5
namespace Go.Proofs.YtkcfmbggdkkfeaaGreatDoor.P
open Go.RowKit Go.Proofs.YtkcfmbggdkkfeaaGreatDoorW.PrintWords Go.Proofs.YtkcfmbggdkkfeaaGreatDoorW.PrintLast Go.Proofs.YtkcfmbggdkkfeaaGreatDoorW.PrintMore
attribute [local go_sem] max2_int min2_int max_two min_two max_three min_three max_four min_four   -- for this text's walks alone
set_option linter.unusedVariables false
set_option linter.unusedSimpArgs false

/-! ### laws_FnBigFile: function 5 -/
def laws_FnBigFile.f (k : Nat) (l0 : List Int) : Option (Bool) := (laws_big.f l0).bind fun t443 => (if t443 = true then (some true) else ((laws_at.f l0 2).bind fun t444 => ((impl_TabNew.f).bind fun bt445 => ((impl_MakeFile.f k bt445.1 bt445.2 (⟨#[47, 102]⟩ : ByteArray)).bind fun bt449 => (if 0 ≤ (wrap64 (100 - (Int.tmod t444 101))) then (if (wrap64 (100 - (Int.tmod t444 101)) : Int).toNat ≤ 281474976710656 then ((impl_WriteAt.f k bt449.1 bt449.2.1 (⟨#[47, 102]⟩ : ByteArray) (Int.tmod t444 101) (List.replicate (wrap64 (100 - (Int.tmod t444 101)) : Int).toNat 0)).bind fun bt458 => (if 0 ≤ (wrap64 ((wrap64 (100 - (Int.tmod t444 101))) + 1)) then (if (wrap64 ((wrap64 (100 - (Int.tmod t444 101))) + 1) : Int).toNat ≤ 281474976710656 then ((impl_WriteAt.f k bt458.1 bt458.2.1 (⟨#[47, 102]⟩ : ByteArray) (Int.tmod t444 101) (List.replicate (wrap64 ((wrap64 (100 - (Int.tmod t444 101))) + 1) : Int).toNat 0)).bind fun bt466 => ((impl_Truncate.f k bt458.1 bt458.2.1 (⟨#[47, 102]⟩ : ByteArray) (Int.tmod t444 101)).bind fun bt472 => ((impl_ReadFile.f k bt472.1 bt472.2.1 (⟨#[47, 102]⟩ : ByteArray) 0 1000).bind fun bt478 => (if bt449.2.2 = 0 then (if bt458.2.2 = 0 then (if bt466.2.2 = 5 then (if bt472.2.2 = 0 then (if bt478.2 = 0 then (if (bt478.1.length : Int) = (Int.tmod t444 101) then ((impl_UsageOf.f k bt458.1 bt458.2.1).bind fun t482 => (some (t482 == 164))) else (none)) else (none)) else (none)) else (none)) else (none)) else (none))))) else (none)) else (none))) else (none)) else (none))))))
def laws_FnBigFile.T5 : Bool × List (List Nat × List Nat) := (true, [([], []), ([], []), ([], []), ([2], [2]), ([3, 3], [3]), ([0, 1, 4], [0, 1, 4]), ([5], [5]), ([6], [6]), ([6], [6]), ([7, 5, 0, 1, 2, 3, 4, 5, 6, 7], [7]), ([8, 9, 0, 1, 2, 3, 4, 5, 6, 7, 8, 9], [8])])
def laws_FnBigFile.B5 : List Nat := [0, 0, 0, 4, 12, 31, 63, 127, 127, 255, 1023]
theorem laws_FnBigFile.tab5 : rtab .any (opsOf Tryz.f5 5) = laws_FnBigFile.T5 := by kernel_rfl
theorem laws_FnBigFile.bits5 : waitsOk laws_FnBigFile.T5.2 laws_FnBigFile.B5 = true := by kernel_rfl
def laws_FnBigFile.T6 : Bool × List (List Nat × List Nat) := (true, [([], []), ([], []), ([], []), ([2], [2]), ([3], [3]), ([4, 4], [4]), ([0, 1, 5], [0, 1, 5]), ([6], [6]), ([7], [7]), ([7], [7]), ([], []), ([10, 8, 6, 0, 1, 2, 3, 4, 5, 6, 7, 8, 10], [8, 10]), ([9, 11, 0, 1, 2, 3, 4, 5, 6, 7, 8, 9, 10, 11], [9])])
def laws_FnBigFile.B6 : List Nat := [0, 0, 0, 4, 12, 28, 63, 127, 255, 255, 0, 1535, 4095]
theorem laws_FnBigFile.tab6 : rtab .any (opsOf Tryz.f5 6) = laws_FnBigFile.T6 := by kernel_rfl
theorem laws_FnBigFile.bits6 : waitsOk laws_FnBigFile.T6.2 laws_FnBigFile.B6 = true := by kernel_rfl
set_option maxHeartbeats 8000000 in
set_option maxRecDepth 100000 in
theorem laws_FnBigFile.calls (k : Nat) (A0 : Option Addr) (c0 : Nat) (l0 : List Int) (r : Bool) (w : World) (hr0 : Kd.C (Kd.int .u8) w A0 l0.length l0) (hc0 : l0.length ≤ c0) (h : laws_FnBigFile.f k l0 = some r) (hG : GOk w := by exact gk_ oB (by first | (with_reducible assumption) | assumption)) :
  Calls Tryz.prog 5 #[.slice A0 l0.length c0] w fun e w' => e = .returned (.bool r) ∧ Below w.heap.size w w' := by
 have HG := Aside0.mk hG
 clear hG
 have hu26 := Tryz.underlying26
 have HR0 := Aside0.mk hr0
 have HC0 := Aside0.mk hc0
 clear hr0 hc0
 have HB := Aside0.mk (Below.refl w.heap.size w)
 unfold laws_FnBigFile.f at h
 have H := h
 clear h
 replace H := bA H
 obtain ⟨t443, A2, H⟩ := H
 try dsimp only at H
 replace H := itB H
 rcases H with ⟨rfl, H⟩ | ⟨rfl, H⟩
 ·obtain rfl := Option.some.inj H
  go_enter Tryz.func5, Tryz.ntmps5
  go_wp2_with (first | ((with_reducible refine gate_callee (f := 11) rfl ?_); refine gl_ 14 Tryz.func11 (laws_big.calls _ _ l0 true _ (kD HR0) HC0.out A2.out) ?_; rintro e w' ⟨rfl, ⟨nd, rfl⟩⟩; refine ⟨_, rfl, ?_⟩))
  go_ret
  exact ⟨oE, oB⟩
 ·replace H := bA H
  obtain ⟨t444, A4, H⟩ := H
  try dsimp only at H
  replace H := bA H
  obtain ⟨⟨t445, t448⟩, A5, H⟩ := H
  try dsimp only at H
  replace H := bA H
  obtain ⟨⟨t449, t452, t453⟩, A6, H⟩ := H
  try dsimp only at H
  obtain ⟨ji7, hji7⟩ : ∃ j_ : Int, (wrap64 (100 - (Int.tmod t444 101))) = j_ := ⟨_, rfl⟩
  replace H : (if 0 ≤ (ji7) then (if (ji7 : Int).toNat ≤ 281474976710656 then ((impl_WriteAt.f k t449 t452 (⟨#[47, 102]⟩ : ByteArray) (Int.tmod t444 101) (List.replicate (ji7 : Int).toNat 0)).bind fun bt458 => (if 0 ≤ (wrap64 ((ji7) + 1)) then (if (wrap64 ((ji7) + 1) : Int).toNat ≤ 281474976710656 then ((impl_WriteAt.f k bt458.1 bt458.2.1 (⟨#[47, 102]⟩ : ByteArray) (Int.tmod t444 101) (List.replicate (wrap64 ((ji7) + 1) : Int).toNat 0)).bind fun bt466 => ((impl_Truncate.f k bt458.1 bt458.2.1 (⟨#[47, 102]⟩ : ByteArray) (Int.tmod t444 101)).bind fun bt472 => ((impl_ReadFile.f k bt472.1 bt472.2.1 (⟨#[47, 102]⟩ : ByteArray) 0 1000).bind fun bt478 => (if t453 = 0 then (if bt458.2.2 = 0 then (if bt466.2.2 = 5 then (if bt472.2.2 = 0 then (if bt478.2 = 0 then (if (bt478.1.length : Int) = (Int.tmod t444 101) then ((impl_UsageOf.f k bt458.1 bt458.2.1).bind fun t482 => (some (t482 == 164))) else (none)) else (none)) else (none)) else (none)) else (none)) else (none))))) else (none)) else (none))) else (none)) else (none)) = some r := by first | (rw [hji7] at H; exact H) | (simp only [hji7] at H ⊢; exact H)
  (try rw [hji7] at A2)
  (try rw [hji7] at A4)
  (try rw [hji7] at A5)
  (try rw [hji7] at A6)
  have hji7w : (IntKind.i64.wrap (100 - (Int.tmod t444 101))) = ji7 := (i64_w _).trans hji7
  by_cases c8 : 0 ≤ (ji7)
  ·rw [if_pos c8] at H
   have c8b0 := eq_true c8
   have c8b1 : decide (0 ≤ (ji7)) = true := decide_eq_true c8
   clear c8
   by_cases c9 : (ji7 : Int).toNat ≤ 281474976710656
   ·rw [if_pos c9] at H
    have c9b0 := eq_true c9
    have c9b1 : decide ((ji7 : Int).toNat ≤ 281474976710656) = true := decide_eq_true c9
    clear c9
    obtain ⟨y455, hy455⟩ : ∃ y_ : List Int, y_ = (List.replicate (ji7 : Int).toNat 0) := ⟨_, rfl⟩
    replace H : ((impl_WriteAt.f k t449 t452 (⟨#[47, 102]⟩ : ByteArray) (Int.tmod t444 101) y455).bind fun bt458 => (if 0 ≤ (wrap64 ((ji7) + 1)) then (if (wrap64 ((ji7) + 1) : Int).toNat ≤ 281474976710656 then ((impl_WriteAt.f k bt458.1 bt458.2.1 (⟨#[47, 102]⟩ : ByteArray) (Int.tmod t444 101) (List.replicate (wrap64 ((ji7) + 1) : Int).toNat 0)).bind fun bt466 => ((impl_Truncate.f k bt458.1 bt458.2.1 (⟨#[47, 102]⟩ : ByteArray) (Int.tmod t444 101)).bind fun bt472 => ((impl_ReadFile.f k bt472.1 bt472.2.1 (⟨#[47, 102]⟩ : ByteArray) 0 1000).bind fun bt478 => (if t453 = 0 then (if bt458.2.2 = 0 then (if bt466.2.2 = 5 then (if bt472.2.2 = 0 then (if bt478.2 = 0 then (if (bt478.1.length : Int) = (Int.tmod t444 101) then ((impl_UsageOf.f k bt458.1 bt458.2.1).bind fun t482 => (some (t482 == 164))) else (none)) else (none)) else (none)) else (none)) else (none)) else (none))))) else (none)) else (none))) = some r := by first | (rw [hy455]; with_reducible exact H) | (have H2_ := (Option.bind_some _ _).symm.trans H; rw [hy455]; with_reducible exact H2_) | (have H2_ := (Option.bind_some _ _).symm.trans H; with_reducible exact H2_) | with_reducible exact H | (rw [hy455]; exact H) | exact H
    have Ny455 := Aside0.mk hy455
    clear hy455
    replace H := bA H
    obtain ⟨⟨t458, t461, t462⟩, A10, H⟩ := H
    try dsimp only at H
    obtain ⟨ji11, hji11⟩ : ∃ j_ : Int, (wrap64 ((ji7) + 1)) = j_ := ⟨_, rfl⟩
    replace H : (if 0 ≤ (ji11) then (if (ji11 : Int).toNat ≤ 281474976710656 then ((impl_WriteAt.f k t458 t461 (⟨#[47, 102]⟩ : ByteArray) (Int.tmod t444 101) (List.replicate (ji11 : Int).toNat 0)).bind fun bt466 => ((impl_Truncate.f k t458 t461 (⟨#[47, 102]⟩ : ByteArray) (Int.tmod t444 101)).bind fun bt472 => ((impl_ReadFile.f k bt472.1 bt472.2.1 (⟨#[47, 102]⟩ : ByteArray) 0 1000).bind fun bt478 => (if t453 = 0 then (if t462 = 0 then (if bt466.2.2 = 5 then (if bt472.2.2 = 0 then (if bt478.2 = 0 then (if (bt478.1.length : Int) = (Int.tmod t444 101) then ((impl_UsageOf.f k t458 t461).bind fun t482 => (some (t482 == 164))) else (none)) else (none)) else (none)) else (none)) else (none)) else (none))))) else (none)) else (none)) = some r := by first | (rw [hji11] at H; exact H) | (simp only [hji11] at H ⊢; exact H)
    (try rw [hji11] at A2)
    (try rw [hji11] at A4)
    (try rw [hji11] at A5)
    (try rw [hji11] at A6)
    (try rw [hji11] at A10)
    have hji11w : (IntKind.i64.wrap ((ji7) + 1)) = ji11 := (i64_w _).trans hji11
    by_cases c12 : 0 ≤ (ji11)
    ·rw [if_pos c12] at H
     have c12b0 := eq_true c12
     have c12b1 : decide (0 ≤ (ji11)) = true := decide_eq_true c12
     clear c12
     by_cases c13 : (ji11 : Int).toNat ≤ 281474976710656
     ·rw [if_pos c13] at H
      have c13b0 := eq_true c13
      have c13b1 : decide ((ji11 : Int).toNat ≤ 281474976710656) = true := decide_eq_true c13
      clear c13
      obtain ⟨y463, hy463⟩ : ∃ y_ : List Int, y_ = (List.replicate (ji11 : Int).toNat 0) := ⟨_, rfl⟩
      replace H : ((impl_WriteAt.f k t458 t461 (⟨#[47, 102]⟩ : ByteArray) (Int.tmod t444 101) y463).bind fun bt466 => ((impl_Truncate.f k t458 t461 (⟨#[47, 102]⟩ : ByteArray) (Int.tmod t444 101)).bind fun bt472 => ((impl_ReadFile.f k bt472.1 bt472.2.1 (⟨#[47, 102]⟩ : ByteArray) 0 1000).bind fun bt478 => (if t453 = 0 then (if t462 = 0 then (if bt466.2.2 = 5 then (if bt472.2.2 = 0 then (if bt478.2 = 0 then (if (bt478.1.length : Int) = (Int.tmod t444 101) then ((impl_UsageOf.f k t458 t461).bind fun t482 => (some (t482 == 164))) else (none)) else (none)) else (none)) else (none)) else (none)) else (none))))) = some r := by first | (rw [hy463]; with_reducible exact H) | (have H2_ := (Option.bind_some _ _).symm.trans H; rw [hy463]; with_reducible exact H2_) | (have H2_ := (Option.bind_some _ _).symm.trans H; with_reducible exact H2_) | with_reducible exact H | (rw [hy463]; exact H) | exact H
      have Ny463 := Aside0.mk hy463
      clear hy463
      replace H := bA H
      obtain ⟨⟨t466, t469, t470⟩, A14, H⟩ := H
      try dsimp only at H
      replace H := bA H
      obtain ⟨⟨t472, t475, t476⟩, A15, H⟩ := H
      try dsimp only at H
      replace H := bA H
      obtain ⟨⟨t478, t481⟩, A16, H⟩ := H
      try dsimp only at H
      by_cases c17 : t453 = 0
      ·rw [if_pos c17] at H
       have c17b0 : (t453 == 0) = true := beq_iff_eq.mpr c17
       have c17b1 : (t453 != 0) = false := bne_eq_false_iff_eq.mpr c17
       clear c17
       by_cases c18 : t462 = 0
       ·rw [if_pos c18] at H
        have c18b0 : (t462 == 0) = true := beq_iff_eq.mpr c18
        have c18b1 : (t462 != 0) = false := bne_eq_false_iff_eq.mpr c18
        clear c18
        by_cases c19 : t470 = 5
        ·rw [if_pos c19] at H
         have c19b0 : (t470 == 5) = true := beq_iff_eq.mpr c19
         have c19b1 : (t470 != 5) = false := bne_eq_false_iff_eq.mpr c19
         clear c19
         by_cases c20 : t476 = 0
         ·rw [if_pos c20] at H
          have c20b0 : (t476 == 0) = true := beq_iff_eq.mpr c20
          have c20b1 : (t476 != 0) = false := bne_eq_false_iff_eq.mpr c20
          clear c20
          by_cases c21 : t481 = 0
          ·rw [if_pos c21] at H
           have c21b0 : (t481 == 0) = true := beq_iff_eq.mpr c21
           have c21b1 : (t481 != 0) = false := bne_eq_false_iff_eq.mpr c21
           clear c21
           by_cases c22 : (t478.length : Int) = (Int.tmod t444 101)
           ·rw [if_pos c22] at H
            have c22b0 : ((t478.length : Int) == (Int.tmod t444 101)) = true := beq_iff_eq.mpr c22
            have c22b1 : ((t478.length : Int) != (Int.tmod t444 101)) = false := bne_eq_false_iff_eq.mpr c22
            clear c22
            replace H := bA H
            obtain ⟨t482, A23, H⟩ := H
            try dsimp only at H
            obtain rfl := Option.some.inj H
            go_enter Tryz.func5, Tryz.ntmps5
            try go_wp2_with (first | ((with_reducible refine gate_callee (f := 11) rfl ?_); refine gl_ 14 Tryz.func11 (laws_big.calls _ _ l0 false _ (kD HR0) HC0.out A2.out) ?_; rintro e w' ⟨rfl, ⟨nd, rfl⟩⟩; refine ⟨_, rfl, ?_⟩) | ((with_reducible refine gate_callee (f := 20) rfl ?_); refine gl_ 16 Tryz.func20 (laws_at.calls _ _ l0 2 t444 _ (kD HR0) HC0.out A4.out) ?_; rintro e w' ⟨rfl, ⟨nd, rfl⟩⟩; refine ⟨_, rfl, ?_⟩) | ((with_reducible refine gate_callee (f := 12) rfl ?_); refine gl_ 19 Tryz.func12 (impl_TabNew.calls  t445 t448 _ A5.out) ?_; rintro e w24 ⟨v446, rfl, ho0, hb⟩; refine ⟨_, rfl, ?_⟩; have HO447 := Aside0.mk (Kd.S_lower ho0 (below_size oB)); replace HB := Aside0.mk (below_step oB hb); obtain ⟨Ao25, co25, eo25⟩ := Kd.S_slice HO447.out; subst eo25) | ((with_reducible refine gate_callee (f := 15) rfl ?_); refine gl_ 20 Tryz.func15 (impl_MakeFile.calls k _ _ t445 t448 (⟨#[47, 102]⟩ : ByteArray) t449 t452 t453 _ ?side1 ?side2 A6.out) ?_; (case side1 => repeat (first | exact (Kd.S_reads' HO447.out).2.2 | (with_reducible refine Kd.C_alloc ?_ _) | (with_reducible refine Kd.C_drewN ?_ _) | (with_reducible refine Kd.C_drew ?_))); (case side2 => exact (Kd.S_reads' HO447.out).2.1); rintro e w26 ⟨v450, rfl, ho0, hb⟩; refine ⟨_, rfl, ?_⟩; have HO451 := Aside0.mk (Kd.S_lower (Kd.S_new' ho0 (Kd.S_lt (by (with_reducible repeat (first | apply Kd.S_alloc | apply Kd.S_drewN | apply Kd.S_drew)); exact HO447.out))) (below_size oB)); replace HO447 := Aside0.mk (Kd.S_elder' (by (with_reducible repeat (first | apply Kd.S_alloc | apply Kd.S_drewN | apply Kd.S_drew)); exact HO447.out) (Kd.S_base ho0) hb); replace HB := Aside0.mk (below_step oB hb)) | ((with_reducible refine gate_dst (N := 4) rfl ?_); (try (refine gate_guard (by rfl) ?_; dsimp only)); refine bx_ 4 #[.slice none 0 0, .int .i64 0] 26 ?_; intro gb454 hg w27 hbox hb; have BK454 := Aside0.mk (hbox); have GW454 := gs_ hg; replace HO447 := Aside0.mk (Kd.S_below (by (with_reducible repeat (first | apply Kd.S_alloc | apply Kd.S_drewN | apply Kd.S_drew)); exact HO447.out) hb); replace HO451 := Aside0.mk (Kd.S_below (by (with_reducible repeat (first | apply Kd.S_alloc | apply Kd.S_drewN | apply Kd.S_drew)); exact HO451.out) hb); replace HB := Aside0.mk (below_step oB hb); clear hb hbox hg; obtain ⟨Ao28, co28, eo28⟩ := Kd.S_slice HO451.out; subst eo28; obtain ⟨⟨_, _⟩, _, _⟩ := z2 BK454))
            have n0_ : Aside0 (Kd.S k51 51 ((w27.setCell ⟨gb454, 0, none⟩ (.slice Ao28 t449.length co28)).setCell ⟨gb454, 1, none⟩ (.int .i64 t452)) w.heap.size (fun k_ => some k_ ≠ (.slice Ao28 t449.length co28 : Value).ownBlock) (.slice Ao25 t445.length co25) t445) := ⟨by (with_reducible repeat (first | apply Kd.S_alloc | apply Kd.S_drewN | apply Kd.S_drew)); exact Kd.S_mono (Kd.S_far (p := ⟨gb454, 1, none⟩) (Kd.S_far (p := ⟨gb454, 0, none⟩) (Kd.S_types HO447.out BK454.out (by decide)) (fun _ hk => hk.2) (.slice Ao28 t449.length co28)) (fun _ hk => hk.2) (.int .i64 t452)) (fun _ hk => hk.1.2)⟩
            have n1_ : Aside0 (Kd.S k51 51 ((w27.setCell ⟨gb454, 0, none⟩ (.slice Ao28 t449.length co28)).setCell ⟨gb454, 1, none⟩ (.int .i64 t452)) w.heap.size (fun k_ => some k_ ≠ (.slice Ao25 t445.length co25 : Value).ownBlock) (.slice Ao28 t449.length co28) t449) := ⟨by (with_reducible repeat (first | apply Kd.S_alloc | apply Kd.S_drewN | apply Kd.S_drew)); exact Kd.S_mono (Kd.S_far (p := ⟨gb454, 1, none⟩) (Kd.S_far (p := ⟨gb454, 0, none⟩) (Kd.S_types HO451.out BK454.out (by decide)) (fun _ hk => hk.2) (.slice Ao28 t449.length co28)) (fun _ hk => hk.2) (.int .i64 t452)) (fun _ hk => hk.1.2)⟩
            have n2_ : Aside0 (((w27.setCell ⟨gb454, 0, none⟩ (.slice Ao28 t449.length co28)).setCell ⟨gb454, 1, none⟩ (.int .i64 t452)).heap[gb454]? = some (.cells #[.slice Ao28 t449.length co28, .int .i64 t452] 26 (0, 0))) := ⟨oP BK454⟩
            have n3_ : Aside0 (Below w.heap.size w ((w27.setCell ⟨gb454, 0, none⟩ (.slice Ao28 t449.length co28)).setCell ⟨gb454, 1, none⟩ (.int .i64 t452))) := ⟨oB⟩
            (try clear HO447)
            (try clear HO451)
            (try clear BK454)
            (try clear HB)
            generalize ((w27.setCell ⟨gb454, 0, none⟩ (.slice Ao28 t449.length co28)).setCell ⟨gb454, 1, none⟩ (.int .i64 t452)) = w30 at n0_ n1_ n2_ n3_ ⊢
            have HO447 := n0_
            have HO451 := n1_
            have BK454 := n2_
            have HB := n3_
            clear n0_ n1_ n2_ n3_
            replace HO447 := Aside0.mk (Kd.S_drew HO447.out)
            replace HO451 := Aside0.mk (Kd.S_drew HO451.out)
            replace BK454 := Aside0.mk (blk_drew BK454.out)
            replace HB := Aside0.mk (below_drew1 HB.out)
            refine start_ (n := 11) (S := fun w' => w'.cell? ⟨gb454, 0, none⟩ = some (.slice Ao28 t449.length co28) ∧ w'.cell? ⟨gb454, 1, none⟩ = some (.int .i64 t452)) (ds := [9]) (lb 11 0) (by kernel_rfl) rfl rfl oH (fun hHeld => ?_); refine with_tabW laws_FnBigFile.tab5 laws_FnBigFile.bits5 (fun HT_ HW_ => ?_)
            generalize w30.drew = w31 at HO447 HO451 BK454 HB hHeld ⊢
            refine pu_ 1 25 HT_ ?_
            refine pu_ 2 26 HT_ ?_
            refine pu_ 3 27 HT_ ?_
            refine ta_ 0 24 HT_ HW_ hHeld ?_
            refine on_ 4 28 HT_ (fun K hK => ?_)
            refine Kd.R_make_step (Kd.int .u8) _ 5 (by rfl) (N := 28) rfl 22 _ _ rfl ji7 rfl rfl Tryz.underlying22 (.int .u8 0) 1 info5 rfl (by decide) (by omega) 0 (ok := fun _ => True) (okp := fun _ => True) rfl (fun _ hk => hk) trivial oa (Nat.le_trans (Nat.mul_le_mul_right _ (oa : ji7.toNat ≤ 281474976710656)) (by omega)) (Below.refl _ _) (Nat.le_refl _) ?_
            intro v456 w32 ho33 hb hg_ hnew_
            clear hg_ hnew_
            (first | rw [← Ny455.out] at ho33 | (simp only [Int.reduceToNat] at ho33; rw [← Ny455.out] at ho33))
            have HO457 := Aside0.mk (Kd.R_lower ho33 (below_size oB))
            replace HO447 := Aside0.mk (Kd.S_elder' (by (with_reducible repeat (first | apply Kd.S_alloc | apply Kd.S_drewN | apply Kd.S_drew)); exact HO447.out) (Kd.R_base ho33) hb)
            replace HO451 := Aside0.mk (Kd.S_elder' (by (with_reducible repeat (first | apply Kd.S_alloc | apply Kd.S_drewN | apply Kd.S_drew)); exact HO451.out) (Kd.R_base ho33) hb)
            replace BK454 := kb_ BK454 hb
            replace HB := Aside0.mk (below_step oB hb)
            clear hb ho33
            obtain ⟨Ao34, co34, eo34⟩ := Kd.R_slice HO457.out
            (first | subst eo34 | (injection eo34 with f1_ f2_ f3_; have f4_ := f1_.symm; have f5_ := f3_.symm; clear f1_ f2_ f3_; subst f4_; subst f5_))
            refine hk_ hK 28 oH (fun hHeld => ?_)
            clear hK K
            refine on_ 5 29 HT_ (fun K hK => ?_)
            refine gr_ 29 Tryz.func22 (impl_WriteAt.calls k _ _ t449 t452 (⟨#[47, 102]⟩ : ByteArray) (Int.tmod t444 101) _ _ y455 t458 t461 t462 _ ?side1 ?side2 (kO HO457) (ko HO457) A10.out) ?_
            (case side1 => repeat (first | exact (Kd.S_reads' HO451.out).2.2 | (with_reducible refine Kd.C_alloc ?_ _) | (with_reducible refine Kd.C_drewN ?_ _) | (with_reducible refine Kd.C_drew ?_)))
            (case side2 => exact (Kd.S_reads' HO451.out).2.1)
            rintro e w35 ⟨v459, rfl, ho0, hb⟩
            refine ⟨_, rfl, ?_⟩
            have HO460 := Aside0.mk (Kd.S_lower (Kd.S_new' (Kd.S_new' (Kd.S_new' ho0 (Kd.S_lt (by (with_reducible repeat (first | apply Kd.S_alloc | apply Kd.S_drewN | apply Kd.S_drew)); exact HO447.out))) (Kd.S_lt (by (with_reducible repeat (first | apply Kd.S_alloc | apply Kd.S_drewN | apply Kd.S_drew)); exact HO451.out))) (kl_ HO457)) (below_size oB))
            replace HO447 := Aside0.mk (Kd.S_elder' (by (with_reducible repeat (first | apply Kd.S_alloc | apply Kd.S_drewN | apply Kd.S_drew)); exact HO447.out) (Kd.S_base ho0) hb)
            replace HO451 := Aside0.mk (Kd.S_elder' (by (with_reducible repeat (first | apply Kd.S_alloc | apply Kd.S_drewN | apply Kd.S_drew)); exact HO451.out) (Kd.S_base ho0) hb)
            replace HO457 := kr_ HO457 hb
            replace BK454 := kb_ BK454 hb
            replace HB := Aside0.mk (below_step oB hb)
            obtain ⟨Ao36, co36, eo36⟩ := Kd.S_slice HO460.out
            (first | subst eo36 | (injection eo36 with f1_ f2_ f3_; have f4_ := f1_.symm; have f5_ := f3_.symm; clear f1_ f2_ f3_; subst f4_; subst f5_))
            refine hk_ hK 29 oH (fun hHeld => ?_)
            clear hK K
            refine pu_ 6 23 HT_ ?_
            refine pu_ 7 30 HT_ ?_
            refine pu_ 8 31 HT_ ?_
            refine last_ (i := 9) (N := none) (lb 11 1023) rfl rfl (one_of HT_.out (by kernel_rfl)) (by decide) (fun K hK => ?_)
            have hs37 : w35.cell? ⟨gb454, 0, none⟩ = some (.slice Ao28 t449.length co28) := (blk_cell BK454.out 0).trans rfl
            have hfs37 := blk_frozen BK454.out 0
            have hs38 : w35.cell? ⟨gb454, 1, none⟩ = some (.int .i64 t452) := (blk_cell BK454.out 1).trans rfl
            have hfs38 := blk_frozen BK454.out 1
            refine skip_ (w1 := ?_) (by rfl) rfl ?_ ?_
            rotate_left
            ·go_simp
             rfl
            refine hK.out _ _ ?_
            clear hK K
            refine pu_ 10 6 HT_ ?_
            refine dn_ HT_ ?_
            try go_wp2
            have n0_ : Aside0 (Kd.S k51 51 ((w35.setCell ⟨gb454, 0, none⟩ (.slice Ao36 t458.length co36)).setCell ⟨gb454, 1, none⟩ (.int .i64 t461)) w.heap.size (fun k_ => some k_ ≠ (.slice Ao28 t449.length co28 : Value).ownBlock ∧ some k_ ≠ (.slice Ao34 y455.length co34 : Value).ownBlock ∧ some k_ ≠ (.slice Ao36 t458.length co36 : Value).ownBlock) (.slice Ao25 t445.length co25) t445) := ⟨by (with_reducible repeat (first | apply Kd.S_alloc | apply Kd.S_drewN | apply Kd.S_drew)); exact Kd.S_mono (Kd.S_far (p := ⟨gb454, 1, none⟩) (Kd.S_far (p := ⟨gb454, 0, none⟩) (Kd.S_types HO447.out BK454.out (by decide)) (fun _ hk => hk.2) (.slice Ao36 t458.length co36)) (fun _ hk => hk.2) (.int .i64 t461)) (fun _ hk => ⟨hk.1.1.1, ⟨hk.1.1.2, hk.1.2⟩⟩)⟩
            have n1_ : Aside0 (Kd.S k51 51 ((w35.setCell ⟨gb454, 0, none⟩ (.slice Ao36 t458.length co36)).setCell ⟨gb454, 1, none⟩ (.int .i64 t461)) w.heap.size (fun k_ => some k_ ≠ (.slice Ao25 t445.length co25 : Value).ownBlock ∧ some k_ ≠ (.slice Ao34 y455.length co34 : Value).ownBlock ∧ some k_ ≠ (.slice Ao36 t458.length co36 : Value).ownBlock) (.slice Ao28 t449.length co28) t449) := ⟨by (with_reducible repeat (first | apply Kd.S_alloc | apply Kd.S_drewN | apply Kd.S_drew)); exact Kd.S_mono (Kd.S_far (p := ⟨gb454, 1, none⟩) (Kd.S_far (p := ⟨gb454, 0, none⟩) (Kd.S_types HO451.out BK454.out (by decide)) (fun _ hk => hk.2) (.slice Ao36 t458.length co36)) (fun _ hk => hk.2) (.int .i64 t461)) (fun _ hk => ⟨hk.1.1.1, ⟨hk.1.1.2, hk.1.2⟩⟩)⟩
            have n2_ : Aside0 (Kd.R (Kd.int .u8) 5 ((w35.setCell ⟨gb454, 0, none⟩ (.slice Ao36 t458.length co36)).setCell ⟨gb454, 1, none⟩ (.int .i64 t461)) w.heap.size (fun _ => True) (.slice Ao34 y455.length co34) y455) := ⟨by (with_reducible repeat (first | apply Kd.R_alloc | apply Kd.R_drewN | apply Kd.R_drew)); exact Kd.R_mono (Kd.R_far (p := ⟨gb454, 1, none⟩) (Kd.R_far (p := ⟨gb454, 0, none⟩) (Kd.R_types HO457.out BK454.out (by decide)) (fun _ hk => hk.2) (.slice Ao36 t458.length co36)) (fun _ hk => hk.2) (.int .i64 t461)) (fun _ hk => trivial)⟩
            have n3_ : Aside0 (Kd.S k51 51 ((w35.setCell ⟨gb454, 0, none⟩ (.slice Ao36 t458.length co36)).setCell ⟨gb454, 1, none⟩ (.int .i64 t461)) w.heap.size (fun k_ => some k_ ≠ (.slice Ao25 t445.length co25 : Value).ownBlock ∧ some k_ ≠ (.slice Ao28 t449.length co28 : Value).ownBlock ∧ some k_ ≠ (.slice Ao34 y455.length co34 : Value).ownBlock) (.slice Ao36 t458.length co36) t458) := ⟨by (with_reducible repeat (first | apply Kd.S_alloc | apply Kd.S_drewN | apply Kd.S_drew)); exact Kd.S_mono (Kd.S_far (p := ⟨gb454, 1, none⟩) (Kd.S_far (p := ⟨gb454, 0, none⟩) (Kd.S_types HO460.out BK454.out (by decide)) (fun _ hk => hk.2) (.slice Ao36 t458.length co36)) (fun _ hk => hk.2) (.int .i64 t461)) (fun _ hk => ⟨hk.1.1.1.2, ⟨hk.1.1.2, hk.1.2⟩⟩)⟩
            have n4_ : Aside0 (((w35.setCell ⟨gb454, 0, none⟩ (.slice Ao36 t458.length co36)).setCell ⟨gb454, 1, none⟩ (.int .i64 t461)).heap[gb454]? = some (.cells #[.slice Ao36 t458.length co36, .int .i64 t461] 26 (0, 0))) := ⟨oP BK454⟩
            have n5_ : Aside0 (Below w.heap.size w ((w35.setCell ⟨gb454, 0, none⟩ (.slice Ao36 t458.length co36)).setCell ⟨gb454, 1, none⟩ (.int .i64 t461))) := ⟨oB⟩
            (try clear HO447)
            (try clear HO451)
            (try clear HO457)
            (try clear HO460)
            (try clear BK454)
            (try clear HB)
            generalize ((w35.setCell ⟨gb454, 0, none⟩ (.slice Ao36 t458.length co36)).setCell ⟨gb454, 1, none⟩ (.int .i64 t461)) = w39 at n0_ n1_ n2_ n3_ n4_ n5_ ⊢
            have HO447 := n0_
            have HO451 := n1_
            have HO457 := n2_
            have HO460 := n3_
            have BK454 := n4_
            have HB := n5_
            clear n0_ n1_ n2_ n3_ n4_ n5_
            replace HO447 := Aside0.mk (Kd.S_drew HO447.out)
            replace HO451 := Aside0.mk (Kd.S_drew HO451.out)
            replace HO457 := Aside0.mk (Kd.R_drew HO457.out)
            replace HO460 := Aside0.mk (Kd.S_drew HO460.out)
            replace BK454 := Aside0.mk (blk_drew BK454.out)
            replace HB := Aside0.mk (below_drew1 HB.out)
            refine st_ 13 (fun w' => w'.cell? ⟨gb454, 0, none⟩ = some (.slice Ao36 t458.length co36) ∧ w'.cell? ⟨gb454, 1, none⟩ = some (.int .i64 t461)) laws_FnBigFile.tab6 laws_FnBigFile.bits6 oH (fun hHeld HT_ HW_ => ?_)
            generalize w39.drew = w40 at HO447 HO451 HO457 HO460 BK454 HB hHeld ⊢
            refine pu_ 1 34 HT_ ?_
            refine pu_ 2 35 HT_ ?_
            refine pu_ 3 36 HT_ ?_
            refine pu_ 4 37 HT_ ?_
            refine ta_ 0 33 HT_ HW_ hHeld ?_
            refine join_ (σ := Value × Value × Nat) 2 (lb 13 2047) (fun s_ => [(38, s_.1), (39, .tuple #[.agg #[s_.2.1, .int .i64 t469], .int .i64 t470]), (7, .pointer (some ⟨s_.2.2, 0, none⟩)), (32, .tuple #[.agg #[s_.2.1, .int .i64 t469], .int .i64 t470]), (40, .agg #[s_.2.1, .int .i64 t469]), (41, .int .i64 t470)]) (fun s_ w' => (w'.cell? ⟨gb454, 0, none⟩ = some (.slice Ao36 t458.length co36) ∧ w'.cell? ⟨gb454, 1, none⟩ = some (.int .i64 t461)) ∧ (Kd.S k51 51 w' w.heap.size (fun k_ => some k_ ≠ (.slice Ao28 t449.length co28 : Value).ownBlock ∧ some k_ ≠ (.slice Ao34 y455.length co34 : Value).ownBlock ∧ some k_ ≠ (.slice Ao36 t458.length co36 : Value).ownBlock ∧ some k_ ≠ (s_.1 : Value).ownBlock ∧ some k_ ≠ (s_.2.1 : Value).ownBlock) (.slice Ao25 t445.length co25) t445) ∧ (Kd.S k51 51 w' w.heap.size (fun k_ => some k_ ≠ (.slice Ao25 t445.length co25 : Value).ownBlock ∧ some k_ ≠ (.slice Ao34 y455.length co34 : Value).ownBlock ∧ some k_ ≠ (.slice Ao36 t458.length co36 : Value).ownBlock ∧ some k_ ≠ (s_.1 : Value).ownBlock ∧ some k_ ≠ (s_.2.1 : Value).ownBlock) (.slice Ao28 t449.length co28) t449) ∧ (Kd.R (Kd.int .u8) 5 w' w.heap.size (fun k_ => some k_ ≠ (s_.1 : Value).ownBlock) (.slice Ao34 y455.length co34) y455) ∧ (Kd.S k51 51 w' w.heap.size (fun k_ => some k_ ≠ (.slice Ao25 t445.length co25 : Value).ownBlock ∧ some k_ ≠ (.slice Ao28 t449.length co28 : Value).ownBlock ∧ some k_ ≠ (.slice Ao34 y455.length co34 : Value).ownBlock ∧ some k_ ≠ (s_.1 : Value).ownBlock ∧ some k_ ≠ (s_.2.1 : Value).ownBlock) (.slice Ao36 t458.length co36) t458) ∧ (Kd.R (Kd.int .u8) 5 w' w.heap.size (fun k_ => some k_ ≠ (.slice Ao34 y455.length co34 : Value).ownBlock) s_.1 y463) ∧ (Kd.S k51 51 w' w.heap.size (fun k_ => some k_ ≠ (.slice Ao25 t445.length co25 : Value).ownBlock ∧ some k_ ≠ (.slice Ao28 t449.length co28 : Value).ownBlock ∧ some k_ ≠ (.slice Ao34 y455.length co34 : Value).ownBlock ∧ some k_ ≠ (.slice Ao36 t458.length co36 : Value).ownBlock ∧ some k_ ≠ (s_.1 : Value).ownBlock) s_.2.1 t466) ∧ (w'.heap[gb454]? = some (.cells #[.slice Ao36 t458.length co36, .int .i64 t461] 26 (0, 0))) ∧ (w'.heap[s_.2.2]? = some (.cells #[.slice none 0 0, .int .i64 0] 26 (0, 0))) ∧ (w.heap.size ≤ s_.2.2) ∧ (w.heap.size ≤ s_.2.2) ∧ (gb454 ≠ s_.2.2) ∧ (s_.2.2 ≠ gb454) ∧ (Below w.heap.size w w')) ?_ ?_
            rotate_left
            ·intro hCont
             refine two_ (i := 5) (j := 10) (Ni := some 38) (Nj := some 7) (lb 13 63) (lb 13 1055) rfl rfl rfl rfl (two_of HT_.out (by kernel_rfl)) (by decide) (by decide) (fun K hK => ?_) (fun K hK => ?_)
             ·skip
              refine Kd.R_make_step (Kd.int .u8) _ 5 (by rfl) (N := 38) rfl 22 _ _ rfl ji11 rfl rfl Tryz.underlying22 (.int .u8 0) 1 info5 rfl (by decide) (by omega) 0 (ok := fun _ => True) (okp := fun _ => True) rfl (fun _ hk => hk) trivial oa (Nat.le_trans (Nat.mul_le_mul_right _ (oa : ji11.toNat ≤ 281474976710656)) (by omega)) (Below.refl _ _) (Nat.le_refl _) ?_
              intro v464 w41 ho42 hb hg_ hnew_
              clear hg_ hnew_
              (first | rw [← Ny463.out] at ho42 | (simp only [Int.reduceToNat] at ho42; rw [← Ny463.out] at ho42))
              have HO465 := Aside0.mk (Kd.R_lower (Kd.R_new' ho42 (kl_ HO457)) (below_size oB))
              replace HO447 := Aside0.mk (Kd.S_elder' (by (with_reducible repeat (first | apply Kd.S_alloc | apply Kd.S_drewN | apply Kd.S_drew)); exact HO447.out) (Kd.R_base ho42) hb)
              replace HO451 := Aside0.mk (Kd.S_elder' (by (with_reducible repeat (first | apply Kd.S_alloc | apply Kd.S_drewN | apply Kd.S_drew)); exact HO451.out) (Kd.R_base ho42) hb)
              replace HO457 := ke_ HO457 ho42 hb
              replace HO460 := Aside0.mk (Kd.S_elder' (by (with_reducible repeat (first | apply Kd.S_alloc | apply Kd.S_drewN | apply Kd.S_drew)); exact HO460.out) (Kd.R_base ho42) hb)
              replace BK454 := kb_ BK454 hb
              replace HB := Aside0.mk (below_step oB hb)
              clear hb ho42
              obtain ⟨Ao43, co43, eo43⟩ := Kd.R_slice HO465.out
              (first | subst eo43 | (injection eo43 with f1_ f2_ f3_; have f4_ := f1_.symm; have f5_ := f3_.symm; clear f1_ f2_ f3_; subst f4_; subst f5_))
              refine hk_ hK 38 oH (fun hHeld => ?_)
              clear hK K
              refine two_ (i := 6) (j := 10) (Ni := some 39) (Nj := some 7) (lb 13 127) (lb 13 1087) rfl rfl rfl rfl (two_of HT_.out (by kernel_rfl)) (by decide) (by decide) (fun K hK => ?_) (fun K hK => ?_)
              ·skip
               refine gr_ 39 Tryz.func22 (impl_WriteAt.calls k _ _ t458 t461 (⟨#[47, 102]⟩ : ByteArray) (Int.tmod t444 101) _ _ y463 t466 t469 t470 _ ?side1 ?side2 (kO HO465) (ko HO465) A14.out) ?_
               (case side1 => repeat (first | exact (Kd.S_reads' HO460.out).2.2 | (with_reducible refine Kd.C_alloc ?_ _) | (with_reducible refine Kd.C_drewN ?_ _) | (with_reducible refine Kd.C_drew ?_)))
               (case side2 => exact (Kd.S_reads' HO460.out).2.1)
               rintro e w44 ⟨v467, rfl, ho0, hb⟩
               refine ⟨_, rfl, ?_⟩
               have HO468 := Aside0.mk (Kd.S_lower (Kd.S_new' (Kd.S_new' (Kd.S_new' (Kd.S_new' (Kd.S_new' ho0 (Kd.S_lt (by (with_reducible repeat (first | apply Kd.S_alloc | apply Kd.S_drewN | apply Kd.S_drew)); exact HO447.out))) (Kd.S_lt (by (with_reducible repeat (first | apply Kd.S_alloc | apply Kd.S_drewN | apply Kd.S_drew)); exact HO451.out))) (kl_ HO457)) (Kd.S_lt (by (with_reducible repeat (first | apply Kd.S_alloc | apply Kd.S_drewN | apply Kd.S_drew)); exact HO460.out))) (kl_ HO465)) (below_size oB))
               replace HO447 := Aside0.mk (Kd.S_elder' (by (with_reducible repeat (first | apply Kd.S_alloc | apply Kd.S_drewN | apply Kd.S_drew)); exact HO447.out) (Kd.S_base ho0) hb)
               replace HO451 := Aside0.mk (Kd.S_elder' (by (with_reducible repeat (first | apply Kd.S_alloc | apply Kd.S_drewN | apply Kd.S_drew)); exact HO451.out) (Kd.S_base ho0) hb)
               replace HO457 := kr_ HO457 hb
               replace HO460 := Aside0.mk (Kd.S_elder' (by (with_reducible repeat (first | apply Kd.S_alloc | apply Kd.S_drewN | apply Kd.S_drew)); exact HO460.out) (Kd.S_base ho0) hb)
               replace HO465 := kr_ HO465 hb
               replace BK454 := kb_ BK454 hb
               replace HB := Aside0.mk (below_step oB hb)
               refine hk_ hK 39 oH (fun hHeld => ?_)
               clear hK K
               refine pu_ 7 32 HT_ ?_
               refine pu_ 8 40 HT_ ?_
               refine pu_ 9 41 HT_ ?_
               refine on_ 10 7 HT_ (fun K hK => ?_)
               refine box_step ?hg (N := 7) ?hd (cs := #[.slice none 0 0, .int .i64 0]) (t := 26) ?hr ?_; (case hd => rfl); (case hg => rfl); (case hr => first | (go_simp; done) | (go_simp; rfl))
               intro gb471 hg w45 hbox hb
               have BK471 := Aside0.mk (hbox)
               have GW471 := gs_ hg
               have GE471 := gs_ hg
               have NB454_471 := nl_ hg BK454
               have NB471_454 := nr_ hg BK454
               replace HO447 := Aside0.mk (Kd.S_below (by (with_reducible repeat (first | apply Kd.S_alloc | apply Kd.S_drewN | apply Kd.S_drew)); exact HO447.out) hb)
               replace HO451 := Aside0.mk (Kd.S_below (by (with_reducible repeat (first | apply Kd.S_alloc | apply Kd.S_drewN | apply Kd.S_drew)); exact HO451.out) hb)
               replace HO457 := kr_ HO457 hb
               replace HO460 := Aside0.mk (Kd.S_below (by (with_reducible repeat (first | apply Kd.S_alloc | apply Kd.S_drewN | apply Kd.S_drew)); exact HO460.out) hb)
               replace HO465 := kr_ HO465 hb
               replace HO468 := Aside0.mk (Kd.S_below (by (with_reducible repeat (first | apply Kd.S_alloc | apply Kd.S_drewN | apply Kd.S_drew)); exact HO468.out) hb)
               replace BK454 := kb_ BK454 hb
               replace HB := Aside0.mk (below_step oB hb)
               clear hb hbox hg
               refine hk_ hK 7 oH (fun hHeld => ?_)
               clear hK K
               exact norm_ (by simp only [putAll, Act.put, List.setIfInBounds_toArray, List.set_cons_zero, List.set_cons_succ]) (hCont (.slice Ao43 y463.length co43, v467, gb471) _ ⟨hHeld, (by (with_reducible repeat (first | apply Kd.S_alloc | apply Kd.S_drewN | apply Kd.S_drew)); exact Kd.S_mono HO447.out (fun _ hk => ⟨hk.1.1.1, ⟨hk.1.1.2.1, ⟨hk.1.1.2.2, ⟨hk.1.2, hk.2⟩⟩⟩⟩)), (by (with_reducible repeat (first | apply Kd.S_alloc | apply Kd.S_drewN | apply Kd.S_drew)); exact Kd.S_mono HO451.out (fun _ hk => ⟨hk.1.1.1, ⟨hk.1.1.2.1, ⟨hk.1.1.2.2, ⟨hk.1.2, hk.2⟩⟩⟩⟩)), (by (with_reducible repeat (first | apply Kd.R_alloc | apply Kd.R_drewN | apply Kd.R_drew)); exact Kd.R_mono HO457.out (fun _ hk => hk.2)), (by (with_reducible repeat (first | apply Kd.S_alloc | apply Kd.S_drewN | apply Kd.S_drew)); exact Kd.S_mono HO460.out (fun _ hk => ⟨hk.1.1.1, ⟨hk.1.1.2.1, ⟨hk.1.1.2.2, ⟨hk.1.2, hk.2⟩⟩⟩⟩)), (by (with_reducible repeat (first | apply Kd.R_alloc | apply Kd.R_drewN | apply Kd.R_drew)); exact Kd.R_mono HO465.out (fun _ hk => hk.2)), (by (with_reducible repeat (first | apply Kd.S_alloc | apply Kd.S_drewN | apply Kd.S_drew)); exact Kd.S_mono HO468.out (fun _ hk => ⟨hk.1.1.1.1.2, ⟨hk.1.1.1.2, ⟨hk.1.1.2, ⟨hk.1.2, hk.2⟩⟩⟩⟩)), (oF BK454), (oF BK471), GW471.out, GE471.out, NB454_471.out, NB471_454.out, oB⟩)
              ·skip
               refine box_step ?hg (N := 7) ?hd (cs := #[.slice none 0 0, .int .i64 0]) (t := 26) ?hr ?_; (case hd => rfl); (case hg => rfl); (case hr => first | (go_simp; done) | (go_simp; rfl))
               intro gb471 hg w43 hbox hb
               have BK471 := Aside0.mk (hbox)
               have GW471 := gs_ hg
               have GE471 := gs_ hg
               have NB454_471 := nl_ hg BK454
               have NB471_454 := nr_ hg BK454
               replace HO447 := Aside0.mk (Kd.S_below (by (with_reducible repeat (first | apply Kd.S_alloc | apply Kd.S_drewN | apply Kd.S_drew)); exact HO447.out) hb)
               replace HO451 := Aside0.mk (Kd.S_below (by (with_reducible repeat (first | apply Kd.S_alloc | apply Kd.S_drewN | apply Kd.S_drew)); exact HO451.out) hb)
               replace HO457 := kr_ HO457 hb
               replace HO460 := Aside0.mk (Kd.S_below (by (with_reducible repeat (first | apply Kd.S_alloc | apply Kd.S_drewN | apply Kd.S_drew)); exact HO460.out) hb)
               replace HO465 := kr_ HO465 hb
               replace BK454 := kb_ BK454 hb
               replace HB := Aside0.mk (below_step oB hb)
               clear hb hbox hg
               obtain ⟨Ao44, co44, eo44⟩ := Kd.R_slice HO465.out
               (first | subst eo44 | (injection eo44 with f1_ f2_ f3_; have f4_ := f1_.symm; have f5_ := f3_.symm; clear f1_ f2_ f3_; subst f4_; subst f5_))
               refine hk_ hK 7 oH (fun hHeld => ?_)
               clear hK K
               refine on_ 6 39 HT_ (fun K hK => ?_)
               refine gr_ 39 Tryz.func22 (impl_WriteAt.calls k _ _ t458 t461 (⟨#[47, 102]⟩ : ByteArray) (Int.tmod t444 101) _ _ y463 t466 t469 t470 _ ?side1 ?side2 (kO HO465) (ko HO465) A14.out) ?_
               (case side1 => repeat (first | exact (Kd.S_reads' HO460.out).2.2 | (with_reducible refine Kd.C_alloc ?_ _) | (with_reducible refine Kd.C_drewN ?_ _) | (with_reducible refine Kd.C_drew ?_)))
               (case side2 => exact (Kd.S_reads' HO460.out).2.1)
               rintro e w45 ⟨v467, rfl, ho0, hb⟩
               refine ⟨_, rfl, ?_⟩
               have HO468 := Aside0.mk (Kd.S_lower (Kd.S_new' (Kd.S_new' (Kd.S_new' (Kd.S_new' (Kd.S_new' ho0 (Kd.S_lt (by (with_reducible repeat (first | apply Kd.S_alloc | apply Kd.S_drewN | apply Kd.S_drew)); exact HO447.out))) (Kd.S_lt (by (with_reducible repeat (first | apply Kd.S_alloc | apply Kd.S_drewN | apply Kd.S_drew)); exact HO451.out))) (kl_ HO457)) (Kd.S_lt (by (with_reducible repeat (first | apply Kd.S_alloc | apply Kd.S_drewN | apply Kd.S_drew)); exact HO460.out))) (kl_ HO465)) (below_size oB))
               replace HO447 := Aside0.mk (Kd.S_elder' (by (with_reducible repeat (first | apply Kd.S_alloc | apply Kd.S_drewN | apply Kd.S_drew)); exact HO447.out) (Kd.S_base ho0) hb)
               replace HO451 := Aside0.mk (Kd.S_elder' (by (with_reducible repeat (first | apply Kd.S_alloc | apply Kd.S_drewN | apply Kd.S_drew)); exact HO451.out) (Kd.S_base ho0) hb)
               replace HO457 := kr_ HO457 hb
               replace HO460 := Aside0.mk (Kd.S_elder' (by (with_reducible repeat (first | apply Kd.S_alloc | apply Kd.S_drewN | apply Kd.S_drew)); exact HO460.out) (Kd.S_base ho0) hb)
               replace HO465 := kr_ HO465 hb
               replace BK454 := kb_ BK454 hb
               replace BK471 := kb_ BK471 hb
               replace HB := Aside0.mk (below_step oB hb)
               refine hk_ hK 39 oH (fun hHeld => ?_)
               clear hK K
               refine pu_ 7 32 HT_ ?_
               refine pu_ 8 40 HT_ ?_
               refine pu_ 9 41 HT_ ?_
               exact norm_ (by simp only [putAll, Act.put, List.setIfInBounds_toArray, List.set_cons_zero, List.set_cons_succ]) (hCont (.slice Ao44 y463.length co44, v467, gb471) _ ⟨hHeld, (by (with_reducible repeat (first | apply Kd.S_alloc | apply Kd.S_drewN | apply Kd.S_drew)); exact Kd.S_mono HO447.out (fun _ hk => ⟨hk.1.1.1, ⟨hk.1.1.2.1, ⟨hk.1.1.2.2, ⟨hk.1.2, hk.2⟩⟩⟩⟩)), (by (with_reducible repeat (first | apply Kd.S_alloc | apply Kd.S_drewN | apply Kd.S_drew)); exact Kd.S_mono HO451.out (fun _ hk => ⟨hk.1.1.1, ⟨hk.1.1.2.1, ⟨hk.1.1.2.2, ⟨hk.1.2, hk.2⟩⟩⟩⟩)), (by (with_reducible repeat (first | apply Kd.R_alloc | apply Kd.R_drewN | apply Kd.R_drew)); exact Kd.R_mono HO457.out (fun _ hk => hk.2)), (by (with_reducible repeat (first | apply Kd.S_alloc | apply Kd.S_drewN | apply Kd.S_drew)); exact Kd.S_mono HO460.out (fun _ hk => ⟨hk.1.1.1, ⟨hk.1.1.2.1, ⟨hk.1.1.2.2, ⟨hk.1.2, hk.2⟩⟩⟩⟩)), (by (with_reducible repeat (first | apply Kd.R_alloc | apply Kd.R_drewN | apply Kd.R_drew)); exact Kd.R_mono HO465.out (fun _ hk => hk.2)), (by (with_reducible repeat (first | apply Kd.S_alloc | apply Kd.S_drewN | apply Kd.S_drew)); exact Kd.S_mono HO468.out (fun _ hk => ⟨hk.1.1.1.1.2, ⟨hk.1.1.1.2, ⟨hk.1.1.2, ⟨hk.1.2, hk.2⟩⟩⟩⟩)), (oF BK454), (oF BK471), GW471.out, GE471.out, NB454_471.out, NB471_454.out, oB⟩)
             ·skip
              refine box_step ?hg (N := 7) ?hd (cs := #[.slice none 0 0, .int .i64 0]) (t := 26) ?hr ?_; (case hd => rfl); (case hg => rfl); (case hr => first | (go_simp; done) | (go_simp; rfl))
              intro gb471 hg w41 hbox hb
              have BK471 := Aside0.mk (hbox)
              have GW471 := gs_ hg
              have GE471 := gs_ hg
              have NB454_471 := nl_ hg BK454
              have NB471_454 := nr_ hg BK454
              replace HO447 := Aside0.mk (Kd.S_below (by (with_reducible repeat (first | apply Kd.S_alloc | apply Kd.S_drewN | apply Kd.S_drew)); exact HO447.out) hb)
              replace HO451 := Aside0.mk (Kd.S_below (by (with_reducible repeat (first | apply Kd.S_alloc | apply Kd.S_drewN | apply Kd.S_drew)); exact HO451.out) hb)
              replace HO457 := kr_ HO457 hb
              replace HO460 := Aside0.mk (Kd.S_below (by (with_reducible repeat (first | apply Kd.S_alloc | apply Kd.S_drewN | apply Kd.S_drew)); exact HO460.out) hb)
              replace BK454 := kb_ BK454 hb
              replace HB := Aside0.mk (below_step oB hb)
              clear hb hbox hg
              refine hk_ hK 7 oH (fun hHeld => ?_)
              clear hK K
              refine on_ 5 38 HT_ (fun K hK => ?_)
              refine Kd.R_make_step (Kd.int .u8) _ 5 (by rfl) (N := 38) rfl 22 _ _ rfl ji11 rfl rfl Tryz.underlying22 (.int .u8 0) 1 info5 rfl (by decide) (by omega) 0 (ok := fun _ => True) (okp := fun _ => True) rfl (fun _ hk => hk) trivial oa (Nat.le_trans (Nat.mul_le_mul_right _ (oa : ji11.toNat ≤ 281474976710656)) (by omega)) (Below.refl _ _) (Nat.le_refl _) ?_
              intro v464 w42 ho43 hb hg_ hnew_
              clear hg_ hnew_
              (first | rw [← Ny463.out] at ho43 | (simp only [Int.reduceToNat] at ho43; rw [← Ny463.out] at ho43))
              have HO465 := Aside0.mk (Kd.R_lower (Kd.R_new' ho43 (kl_ HO457)) (below_size oB))
              replace HO447 := Aside0.mk (Kd.S_elder' (by (with_reducible repeat (first | apply Kd.S_alloc | apply Kd.S_drewN | apply Kd.S_drew)); exact HO447.out) (Kd.R_base ho43) hb)
              replace HO451 := Aside0.mk (Kd.S_elder' (by (with_reducible repeat (first | apply Kd.S_alloc | apply Kd.S_drewN | apply Kd.S_drew)); exact HO451.out) (Kd.R_base ho43) hb)
              replace HO457 := ke_ HO457 ho43 hb
              replace HO460 := Aside0.mk (Kd.S_elder' (by (with_reducible repeat (first | apply Kd.S_alloc | apply Kd.S_drewN | apply Kd.S_drew)); exact HO460.out) (Kd.R_base ho43) hb)
              replace BK454 := kb_ BK454 hb
              replace BK471 := kb_ BK471 hb
              replace HB := Aside0.mk (below_step oB hb)
              clear hb ho43
              obtain ⟨Ao44, co44, eo44⟩ := Kd.R_slice HO465.out
              (first | subst eo44 | (injection eo44 with f1_ f2_ f3_; have f4_ := f1_.symm; have f5_ := f3_.symm; clear f1_ f2_ f3_; subst f4_; subst f5_))
              refine hk_ hK 38 oH (fun hHeld => ?_)
              clear hK K
              refine on_ 6 39 HT_ (fun K hK => ?_)
              refine gr_ 39 Tryz.func22 (impl_WriteAt.calls k _ _ t458 t461 (⟨#[47, 102]⟩ : ByteArray) (Int.tmod t444 101) _ _ y463 t466 t469 t470 _ ?side1 ?side2 (kO HO465) (ko HO465) A14.out) ?_
              (case side1 => repeat (first | exact (Kd.S_reads' HO460.out).2.2 | (with_reducible refine Kd.C_alloc ?_ _) | (with_reducible refine Kd.C_drewN ?_ _) | (with_reducible refine Kd.C_drew ?_)))
              (case side2 => exact (Kd.S_reads' HO460.out).2.1)
              rintro e w45 ⟨v467, rfl, ho0, hb⟩
              refine ⟨_, rfl, ?_⟩
              have HO468 := Aside0.mk (Kd.S_lower (Kd.S_new' (Kd.S_new' (Kd.S_new' (Kd.S_new' (Kd.S_new' ho0 (Kd.S_lt (by (with_reducible repeat (first | apply Kd.S_alloc | apply Kd.S_drewN | apply Kd.S_drew)); exact HO447.out))) (Kd.S_lt (by (with_reducible repeat (first | apply Kd.S_alloc | apply Kd.S_drewN | apply Kd.S_drew)); exact HO451.out))) (kl_ HO457)) (Kd.S_lt (by (with_reducible repeat (first | apply Kd.S_alloc | apply Kd.S_drewN | apply Kd.S_drew)); exact HO460.out))) (kl_ HO465)) (below_size oB))
              replace HO447 := Aside0.mk (Kd.S_elder' (by (with_reducible repeat (first | apply Kd.S_alloc | apply Kd.S_drewN | apply Kd.S_drew)); exact HO447.out) (Kd.S_base ho0) hb)
              replace HO451 := Aside0.mk (Kd.S_elder' (by (with_reducible repeat (first | apply Kd.S_alloc | apply Kd.S_drewN | apply Kd.S_drew)); exact HO451.out) (Kd.S_base ho0) hb)
              replace HO457 := kr_ HO457 hb
              replace HO460 := Aside0.mk (Kd.S_elder' (by (with_reducible repeat (first | apply Kd.S_alloc | apply Kd.S_drewN | apply Kd.S_drew)); exact HO460.out) (Kd.S_base ho0) hb)
              replace HO465 := kr_ HO465 hb
              replace BK454 := kb_ BK454 hb
              replace BK471 := kb_ BK471 hb
              replace HB := Aside0.mk (below_step oB hb)
              refine hk_ hK 39 oH (fun hHeld => ?_)
              clear hK K
              refine pu_ 7 32 HT_ ?_
              refine pu_ 8 40 HT_ ?_
              refine pu_ 9 41 HT_ ?_
              exact norm_ (by simp only [putAll, Act.put, List.setIfInBounds_toArray, List.set_cons_zero, List.set_cons_succ]) (hCont (.slice Ao44 y463.length co44, v467, gb471) _ ⟨hHeld, (by (with_reducible repeat (first | apply Kd.S_alloc | apply Kd.S_drewN | apply Kd.S_drew)); exact Kd.S_mono HO447.out (fun _ hk => ⟨hk.1.1.1, ⟨hk.1.1.2.1, ⟨hk.1.1.2.2, ⟨hk.1.2, hk.2⟩⟩⟩⟩)), (by (with_reducible repeat (first | apply Kd.S_alloc | apply Kd.S_drewN | apply Kd.S_drew)); exact Kd.S_mono HO451.out (fun _ hk => ⟨hk.1.1.1, ⟨hk.1.1.2.1, ⟨hk.1.1.2.2, ⟨hk.1.2, hk.2⟩⟩⟩⟩)), (by (with_reducible repeat (first | apply Kd.R_alloc | apply Kd.R_drewN | apply Kd.R_drew)); exact Kd.R_mono HO457.out (fun _ hk => hk.2)), (by (with_reducible repeat (first | apply Kd.S_alloc | apply Kd.S_drewN | apply Kd.S_drew)); exact Kd.S_mono HO460.out (fun _ hk => ⟨hk.1.1.1, ⟨hk.1.1.2.1, ⟨hk.1.1.2.2, ⟨hk.1.2, hk.2⟩⟩⟩⟩)), (by (with_reducible repeat (first | apply Kd.R_alloc | apply Kd.R_drewN | apply Kd.R_drew)); exact Kd.R_mono HO465.out (fun _ hk => hk.2)), (by (with_reducible repeat (first | apply Kd.S_alloc | apply Kd.S_drewN | apply Kd.S_drew)); exact Kd.S_mono HO468.out (fun _ hk => ⟨hk.1.1.1.1.2, ⟨hk.1.1.1.2, ⟨hk.1.1.2, ⟨hk.1.2, hk.2⟩⟩⟩⟩)), (oF BK454), (oF BK471), GW471.out, GE471.out, NB454_471.out, NB471_454.out, oB⟩)
            rintro ⟨v464, v467, gb471⟩ w46 ⟨hS_, h0_, h1_, h2_, h3_, h4_, h5_, h6_, h7_, h8_, h9_, h10_, h11_, h12_⟩
            have n0_ : Aside0 (Kd.S k51 51 w46 w.heap.size (fun k_ => some k_ ≠ (.slice Ao28 t449.length co28 : Value).ownBlock ∧ some k_ ≠ (.slice Ao34 y455.length co34 : Value).ownBlock ∧ some k_ ≠ (.slice Ao36 t458.length co36 : Value).ownBlock ∧ some k_ ≠ (v464 : Value).ownBlock ∧ some k_ ≠ (v467 : Value).ownBlock) (.slice Ao25 t445.length co25) t445) := ⟨h0_⟩
            have n1_ : Aside0 (Kd.S k51 51 w46 w.heap.size (fun k_ => some k_ ≠ (.slice Ao25 t445.length co25 : Value).ownBlock ∧ some k_ ≠ (.slice Ao34 y455.length co34 : Value).ownBlock ∧ some k_ ≠ (.slice Ao36 t458.length co36 : Value).ownBlock ∧ some k_ ≠ (v464 : Value).ownBlock ∧ some k_ ≠ (v467 : Value).ownBlock) (.slice Ao28 t449.length co28) t449) := ⟨h1_⟩
            have n2_ : Aside0 (Kd.R (Kd.int .u8) 5 w46 w.heap.size (fun k_ => some k_ ≠ (v464 : Value).ownBlock) (.slice Ao34 y455.length co34) y455) := ⟨h2_⟩
            have n3_ : Aside0 (Kd.S k51 51 w46 w.heap.size (fun k_ => some k_ ≠ (.slice Ao25 t445.length co25 : Value).ownBlock ∧ some k_ ≠ (.slice Ao28 t449.length co28 : Value).ownBlock ∧ some k_ ≠ (.slice Ao34 y455.length co34 : Value).ownBlock ∧ some k_ ≠ (v464 : Value).ownBlock ∧ some k_ ≠ (v467 : Value).ownBlock) (.slice Ao36 t458.length co36) t458) := ⟨h3_⟩
            have n4_ : Aside0 (Kd.R (Kd.int .u8) 5 w46 w.heap.size (fun k_ => some k_ ≠ (.slice Ao34 y455.length co34 : Value).ownBlock) v464 y463) := ⟨h4_⟩
            have n5_ : Aside0 (Kd.S k51 51 w46 w.heap.size (fun k_ => some k_ ≠ (.slice Ao25 t445.length co25 : Value).ownBlock ∧ some k_ ≠ (.slice Ao28 t449.length co28 : Value).ownBlock ∧ some k_ ≠ (.slice Ao34 y455.length co34 : Value).ownBlock ∧ some k_ ≠ (.slice Ao36 t458.length co36 : Value).ownBlock ∧ some k_ ≠ (v464 : Value).ownBlock) v467 t466) := ⟨h5_⟩
            have n6_ : Aside0 (w46.heap[gb454]? = some (.cells #[.slice Ao36 t458.length co36, .int .i64 t461] 26 (0, 0))) := ⟨h6_⟩
            have n7_ : Aside0 (w46.heap[gb471]? = some (.cells #[.slice none 0 0, .int .i64 0] 26 (0, 0))) := ⟨h7_⟩
            have n8_ : Aside0 (w.heap.size ≤ gb471) := ⟨h8_⟩
            have n9_ : Aside0 (w.heap.size ≤ gb471) := ⟨h9_⟩
            have n10_ : Aside0 (gb454 ≠ gb471) := ⟨h10_⟩
            have n11_ : Aside0 (gb471 ≠ gb454) := ⟨h11_⟩
            have n12_ : Aside0 (Below w.heap.size w w46) := ⟨h12_⟩
            clear HO447
            clear HO451
            clear HO457
            clear HO460
            clear BK454
            clear HB
            clear h0_ h1_ h2_ h3_ h4_ h5_ h6_ h7_ h8_ h9_ h10_ h11_ h12_
            have HO447 := n0_
            have HO451 := n1_
            have HO457 := n2_
            have HO460 := n3_
            have HO465 := n4_
            have HO468 := n5_
            have BK454 := n6_
            have BK471 := n7_
            have GW471 := n8_
            have GE471 := n9_
            have NB454_471 := n10_
            have NB471_454 := n11_
            have HB := n12_
            clear n0_ n1_ n2_ n3_ n4_ n5_ n6_ n7_ n8_ n9_ n10_ n11_ n12_
            have hHeld : w46.cell? ⟨gb454, 0, none⟩ = some (.slice Ao36 t458.length co36) ∧ w46.cell? ⟨gb454, 1, none⟩ = some (.int .i64 t461) := hS_
            obtain ⟨Ao47, co47, eo47⟩ := Kd.S_slice HO468.out
            (first | subst eo47 | (injection eo47 with f1_ f2_ f3_; have f4_ := f1_.symm; have f5_ := f3_.symm; clear f1_ f2_ f3_; subst f4_; subst f5_))
            refine norm_ (a' := ?_) ?_ ?_
            rotate_left
            ·simp only [putAll, Act.put, List.setIfInBounds_toArray, List.set_cons_zero, List.set_cons_succ]
             rfl
            refine one_ (i := 11) (N := none) (lb 13 4095) rfl rfl (one_of HT_.out (by kernel_rfl)) (by decide) (fun K hK => ?_)
            have hs48 : w46.cell? ⟨gb471, 0, none⟩ = some (.slice none 0 0) := (blk_cell BK471.out 0).trans rfl
            have hfs48 := blk_frozen BK471.out 0
            have hns48_0 := NB454_471.out
            have hms48_0 := NB471_454.out
            have hs49 : w46.cell? ⟨gb471, 1, none⟩ = some (.int .i64 0) := (blk_cell BK471.out 1).trans rfl
            have hfs49 := blk_frozen BK471.out 1
            have hns49_0 := NB454_471.out
            have hms49_0 := NB471_454.out
            refine skip_ (w1 := ?_) (by rfl) rfl ?_ ?_
            rotate_left
            ·go_simp
             rfl
            refine hK.out _ _ ⟨((cell_far (p := ⟨gb471, _, none⟩) NB454_471.out _).trans (((cell_far (p := ⟨gb471, _, none⟩) NB454_471.out _).trans (hHeld.1)))), ((cell_far (p := ⟨gb471, _, none⟩) NB454_471.out _).trans (((cell_far (p := ⟨gb471, _, none⟩) NB454_471.out _).trans (hHeld.2))))⟩ (fun hHeld => ?_)
            clear hK K
            refine pu_ 12 8 HT_ ?_
            refine dn_ HT_ ?_
            have hnb50 := NB454_471.out
            have hnc50 := NB471_454.out
            obtain ⟨⟨_, _⟩, _, _⟩ := z2 BK454
            try go_wp2_with (first | ((with_reducible refine gate_callee (f := 24) rfl ?_); refine gl_ 45 Tryz.func24 (impl_Truncate.calls k _ _ t458 t461 (⟨#[47, 102]⟩ : ByteArray) (Int.tmod t444 101) t472 t475 t476 _ ?side1 ?side2 A15.out) ?_; (case side1 => refine (Kd.S_reads' (e := 51) (base := w.heap.size) (ok := fun k_ => (some k_ ≠ (.slice Ao25 t445.length co25 : Value).ownBlock ∧ (some k_ ≠ (.slice Ao28 t449.length co28 : Value).ownBlock ∧ (some k_ ≠ (.slice Ao34 y455.length co34 : Value).ownBlock ∧ (some k_ ≠ (v464 : Value).ownBlock ∧ some k_ ≠ (.slice Ao47 t466.length co47 : Value).ownBlock))))) (n := t458.length) (c := co36) ?_).2.2; exact (by (with_reducible repeat (first | apply Kd.S_alloc | apply Kd.S_drewN | apply Kd.S_drew)); exact (Kd.S_mono (Kd.S_far (p := ⟨gb471, 1, none⟩) (Kd.S_far (p := ⟨gb471, 0, none⟩) (Kd.S_types HO460.out BK471.out (by decide)) (fun _ hk => hk.2) (.slice Ao47 t466.length co47)) (fun _ hk => hk.2) (.int .i64 t469)) (fun _ h_ => h_.1)))); (case side2 => exact (Kd.S_reads' HO460.out).2.1); rintro e w52 ⟨v473, rfl, ho0, hb⟩; refine ⟨_, rfl, ?_⟩; have HO474 := Aside0.mk (Kd.S_lower (Kd.S_new' (Kd.S_new' (Kd.S_new' (Kd.S_new' (Kd.S_new' (Kd.S_new' ho0 (Kd.S_lt (by (with_reducible repeat (first | apply Kd.S_alloc | apply Kd.S_drewN | apply Kd.S_drew)); exact (Kd.S_mono (Kd.S_far (p := ⟨gb471, 1, none⟩) (Kd.S_far (p := ⟨gb471, 0, none⟩) (Kd.S_types HO447.out BK471.out (by decide)) (fun _ hk => hk.2) (.slice Ao47 t466.length co47)) (fun _ hk => hk.2) (.int .i64 t469)) (fun _ h_ => h_.1))))) (Kd.S_lt (by (with_reducible repeat (first | apply Kd.S_alloc | apply Kd.S_drewN | apply Kd.S_drew)); exact (Kd.S_mono (Kd.S_far (p := ⟨gb471, 1, none⟩) (Kd.S_far (p := ⟨gb471, 0, none⟩) (Kd.S_types HO451.out BK471.out (by decide)) (fun _ hk => hk.2) (.slice Ao47 t466.length co47)) (fun _ hk => hk.2) (.int .i64 t469)) (fun _ h_ => h_.1))))) (Kd.R_lt (by (with_reducible repeat (first | apply Kd.R_alloc | apply Kd.R_drewN | apply Kd.R_drew)); exact (Kd.R_mono (Kd.R_far (p := ⟨gb471, 1, none⟩) (Kd.R_far (p := ⟨gb471, 0, none⟩) (Kd.R_types HO457.out BK471.out (by decide)) (fun _ hk => hk.2) (.slice Ao47 t466.length co47)) (fun _ hk => hk.2) (.int .i64 t469)) (fun _ h_ => h_.1))))) (Kd.S_lt (by (with_reducible repeat (first | apply Kd.S_alloc | apply Kd.S_drewN | apply Kd.S_drew)); exact (Kd.S_mono (Kd.S_far (p := ⟨gb471, 1, none⟩) (Kd.S_far (p := ⟨gb471, 0, none⟩) (Kd.S_types HO460.out BK471.out (by decide)) (fun _ hk => hk.2) (.slice Ao47 t466.length co47)) (fun _ hk => hk.2) (.int .i64 t469)) (fun _ h_ => h_.1))))) (Kd.R_lt (by (with_reducible repeat (first | apply Kd.R_alloc | apply Kd.R_drewN | apply Kd.R_drew)); exact (Kd.R_mono (Kd.R_far (p := ⟨gb471, 1, none⟩) (Kd.R_far (p := ⟨gb471, 0, none⟩) (Kd.R_types HO465.out BK471.out (by decide)) (fun _ hk => hk.2) (.slice Ao47 t466.length co47)) (fun _ hk => hk.2) (.int .i64 t469)) (fun _ h_ => h_.1))))) (Kd.S_lt (by (with_reducible repeat (first | apply Kd.S_alloc | apply Kd.S_drewN | apply Kd.S_drew)); exact (Kd.S_mono (Kd.S_far (p := ⟨gb471, 1, none⟩) (Kd.S_far (p := ⟨gb471, 0, none⟩) (Kd.S_types HO468.out BK471.out (by decide)) (fun _ hk => hk.2) (.slice Ao47 t466.length co47)) (fun _ hk => hk.2) (.int .i64 t469)) (fun _ h_ => h_.1))))) (below_size oB)); replace HO447 := Aside0.mk (Kd.S_elder' (by (with_reducible repeat (first | apply Kd.S_alloc | apply Kd.S_drewN | apply Kd.S_drew)); exact (Kd.S_mono (Kd.S_far (p := ⟨gb471, 1, none⟩) (Kd.S_far (p := ⟨gb471, 0, none⟩) (Kd.S_types HO447.out BK471.out (by decide)) (fun _ hk => hk.2) (.slice Ao47 t466.length co47)) (fun _ hk => hk.2) (.int .i64 t469)) (fun _ h_ => h_.1))) (Kd.S_base ho0) hb); replace HO451 := Aside0.mk (Kd.S_elder' (by (with_reducible repeat (first | apply Kd.S_alloc | apply Kd.S_drewN | apply Kd.S_drew)); exact (Kd.S_mono (Kd.S_far (p := ⟨gb471, 1, none⟩) (Kd.S_far (p := ⟨gb471, 0, none⟩) (Kd.S_types HO451.out BK471.out (by decide)) (fun _ hk => hk.2) (.slice Ao47 t466.length co47)) (fun _ hk => hk.2) (.int .i64 t469)) (fun _ h_ => h_.1))) (Kd.S_base ho0) hb); replace HO457 := Aside0.mk (Kd.R_below (by (with_reducible repeat (first | apply Kd.R_alloc | apply Kd.R_drewN | apply Kd.R_drew)); exact (Kd.R_mono (Kd.R_far (p := ⟨gb471, 1, none⟩) (Kd.R_far (p := ⟨gb471, 0, none⟩) (Kd.R_types HO457.out BK471.out (by decide)) (fun _ hk => hk.2) (.slice Ao47 t466.length co47)) (fun _ hk => hk.2) (.int .i64 t469)) (fun _ h_ => h_.1))) hb); replace HO460 := Aside0.mk (Kd.S_elder' (by (with_reducible repeat (first | apply Kd.S_alloc | apply Kd.S_drewN | apply Kd.S_drew)); exact (Kd.S_mono (Kd.S_far (p := ⟨gb471, 1, none⟩) (Kd.S_far (p := ⟨gb471, 0, none⟩) (Kd.S_types HO460.out BK471.out (by decide)) (fun _ hk => hk.2) (.slice Ao47 t466.length co47)) (fun _ hk => hk.2) (.int .i64 t469)) (fun _ h_ => h_.1))) (Kd.S_base ho0) hb); replace HO465 := Aside0.mk (Kd.R_below (by (with_reducible repeat (first | apply Kd.R_alloc | apply Kd.R_drewN | apply Kd.R_drew)); exact (Kd.R_mono (Kd.R_far (p := ⟨gb471, 1, none⟩) (Kd.R_far (p := ⟨gb471, 0, none⟩) (Kd.R_types HO465.out BK471.out (by decide)) (fun _ hk => hk.2) (.slice Ao47 t466.length co47)) (fun _ hk => hk.2) (.int .i64 t469)) (fun _ h_ => h_.1))) hb); replace HO468 := Aside0.mk (Kd.S_elder' (by (with_reducible repeat (first | apply Kd.S_alloc | apply Kd.S_drewN | apply Kd.S_drew)); exact (Kd.S_mono (Kd.S_far (p := ⟨gb471, 1, none⟩) (Kd.S_far (p := ⟨gb471, 0, none⟩) (Kd.S_types HO468.out BK471.out (by decide)) (fun _ hk => hk.2) (.slice Ao47 t466.length co47)) (fun _ hk => hk.2) (.int .i64 t469)) (fun _ h_ => h_.1))) (Kd.S_base ho0) hb); replace BK454 := kb_ BK454 hb; replace BK471 := kp_ #[.slice Ao47 t466.length co47, .int .i64 t469] BK471 hb; replace HB := Aside0.mk (below_step oB hb); (try clear hk)) | ((with_reducible refine gate_dst (N := 9) rfl ?_); (try (refine gate_guard (by rfl) ?_; dsimp only)); refine bx_ 9 #[.slice none 0 0, .int .i64 0] 26 ?_; intro gb477 hg w53 hbox hb; have BK477 := Aside0.mk (hbox); have GW477 := gs_ hg; have NB454_477 := nl_ hg BK454; have NB477_454 := nr_ hg BK454; have NB471_477 := nl_ hg BK471; have NB477_471 := nr_ hg BK471; replace HO447 := Aside0.mk (Kd.S_below (by (with_reducible repeat (first | apply Kd.S_alloc | apply Kd.S_drewN | apply Kd.S_drew)); exact HO447.out) hb); replace HO451 := Aside0.mk (Kd.S_below (by (with_reducible repeat (first | apply Kd.S_alloc | apply Kd.S_drewN | apply Kd.S_drew)); exact HO451.out) hb); replace HO457 := kr_ HO457 hb; replace HO460 := Aside0.mk (Kd.S_below (by (with_reducible repeat (first | apply Kd.S_alloc | apply Kd.S_drewN | apply Kd.S_drew)); exact HO460.out) hb); replace HO465 := kr_ HO465 hb; replace HO468 := Aside0.mk (Kd.S_below (by (with_reducible repeat (first | apply Kd.S_alloc | apply Kd.S_drewN | apply Kd.S_drew)); exact HO468.out) hb); replace HO474 := Aside0.mk (Kd.S_below (by (with_reducible repeat (first | apply Kd.S_alloc | apply Kd.S_drewN | apply Kd.S_drew)); exact HO474.out) hb); replace BK454 := kb_ BK454 hb; replace BK471 := kb_ BK471 hb; replace HB := Aside0.mk (below_step oB hb); clear hb hbox hg; obtain ⟨Ao54, co54, eo54⟩ := Kd.S_slice HO474.out; subst eo54; have hnb55 := NB477_454.out; have hnc55 := NB454_477.out; have hnb56 := NB477_471.out; have hnc56 := NB471_477.out; obtain ⟨⟨_, _⟩, _, _⟩ := z2 BK477) | ((with_reducible refine gate_callee (f := 23) rfl ?_); refine gl_ 50 Tryz.func23 (impl_ReadFile.calls k _ _ t472 t475 (⟨#[47, 102]⟩ : ByteArray) 0 1000 t478 t481 _ ?side1 ?side2 A16.out) ?_; (case side1 => refine (Kd.S_reads' (e := 51) (base := w.heap.size) (ok := fun k_ => ((((((True ∧ some k_ ≠ (.slice Ao25 t445.length co25 : Value).ownBlock) ∧ some k_ ≠ (.slice Ao28 t449.length co28 : Value).ownBlock) ∧ some k_ ≠ (.slice Ao34 y455.length co34 : Value).ownBlock) ∧ some k_ ≠ (.slice Ao36 t458.length co36 : Value).ownBlock) ∧ some k_ ≠ (v464 : Value).ownBlock) ∧ some k_ ≠ (.slice Ao47 t466.length co47 : Value).ownBlock)) (n := t472.length) (c := co54) ?_).2.2; exact (by (with_reducible repeat (first | apply Kd.S_alloc | apply Kd.S_drewN | apply Kd.S_drew)); exact (Kd.S_mono (Kd.S_far (p := ⟨gb477, 1, none⟩) (Kd.S_far (p := ⟨gb477, 0, none⟩) (Kd.S_types HO474.out BK477.out (by decide)) (fun _ hk => hk.2) (.slice Ao54 t472.length co54)) (fun _ hk => hk.2) (.int .i64 t475)) (fun _ h_ => h_.1)))); (case side2 => exact (Kd.S_reads' HO474.out).2.1); rintro e w58 ⟨v479, rfl, ho0, hb⟩; refine ⟨_, rfl, ?_⟩; have HO480 := Aside0.mk (Kd.R_lower (Kd.R_new' (Kd.R_new' ho0 (Kd.R_lt (by (with_reducible repeat (first | apply Kd.R_alloc | apply Kd.R_drewN | apply Kd.R_drew)); exact (Kd.R_mono (Kd.R_far (p := ⟨gb477, 1, none⟩) (Kd.R_far (p := ⟨gb477, 0, none⟩) (Kd.R_types HO457.out BK477.out (by decide)) (fun _ hk => hk.2) (.slice Ao54 t472.length co54)) (fun _ hk => hk.2) (.int .i64 t475)) (fun _ h_ => h_.1))))) (Kd.R_lt (by (with_reducible repeat (first | apply Kd.R_alloc | apply Kd.R_drewN | apply Kd.R_drew)); exact (Kd.R_mono (Kd.R_far (p := ⟨gb477, 1, none⟩) (Kd.R_far (p := ⟨gb477, 0, none⟩) (Kd.R_types HO465.out BK477.out (by decide)) (fun _ hk => hk.2) (.slice Ao54 t472.length co54)) (fun _ hk => hk.2) (.int .i64 t475)) (fun _ h_ => h_.1))))) (below_size oB)); replace HO447 := Aside0.mk (Kd.S_elder' (by (with_reducible repeat (first | apply Kd.S_alloc | apply Kd.S_drewN | apply Kd.S_drew)); exact (Kd.S_mono (Kd.S_far (p := ⟨gb477, 1, none⟩) (Kd.S_far (p := ⟨gb477, 0, none⟩) (Kd.S_types HO447.out BK477.out (by decide)) (fun _ hk => hk.2) (.slice Ao54 t472.length co54)) (fun _ hk => hk.2) (.int .i64 t475)) (fun _ h_ => h_.1))) (Kd.R_base ho0) hb); replace HO451 := Aside0.mk (Kd.S_elder' (by (with_reducible repeat (first | apply Kd.S_alloc | apply Kd.S_drewN | apply Kd.S_drew)); exact (Kd.S_mono (Kd.S_far (p := ⟨gb477, 1, none⟩) (Kd.S_far (p := ⟨gb477, 0, none⟩) (Kd.S_types HO451.out BK477.out (by decide)) (fun _ hk => hk.2) (.slice Ao54 t472.length co54)) (fun _ hk => hk.2) (.int .i64 t475)) (fun _ h_ => h_.1))) (Kd.R_base ho0) hb); replace HO457 := Aside0.mk (Kd.R_elder' (by (with_reducible repeat (first | apply Kd.R_alloc | apply Kd.R_drewN | apply Kd.R_drew)); exact (Kd.R_mono (Kd.R_far (p := ⟨gb477, 1, none⟩) (Kd.R_far (p := ⟨gb477, 0, none⟩) (Kd.R_types HO457.out BK477.out (by decide)) (fun _ hk => hk.2) (.slice Ao54 t472.length co54)) (fun _ hk => hk.2) (.int .i64 t475)) (fun _ h_ => h_.1))) (Kd.R_base ho0) hb); replace HO460 := Aside0.mk (Kd.S_elder' (by (with_reducible repeat (first | apply Kd.S_alloc | apply Kd.S_drewN | apply Kd.S_drew)); exact (Kd.S_mono (Kd.S_far (p := ⟨gb477, 1, none⟩) (Kd.S_far (p := ⟨gb477, 0, none⟩) (Kd.S_types HO460.out BK477.out (by decide)) (fun _ hk => hk.2) (.slice Ao54 t472.length co54)) (fun _ hk => hk.2) (.int .i64 t475)) (fun _ h_ => h_.1))) (Kd.R_base ho0) hb); replace HO465 := Aside0.mk (Kd.R_elder' (by (with_reducible repeat (first | apply Kd.R_alloc | apply Kd.R_drewN | apply Kd.R_drew)); exact (Kd.R_mono (Kd.R_far (p := ⟨gb477, 1, none⟩) (Kd.R_far (p := ⟨gb477, 0, none⟩) (Kd.R_types HO465.out BK477.out (by decide)) (fun _ hk => hk.2) (.slice Ao54 t472.length co54)) (fun _ hk => hk.2) (.int .i64 t475)) (fun _ h_ => h_.1))) (Kd.R_base ho0) hb); replace HO468 := Aside0.mk (Kd.S_elder' (by (with_reducible repeat (first | apply Kd.S_alloc | apply Kd.S_drewN | apply Kd.S_drew)); exact (Kd.S_mono (Kd.S_far (p := ⟨gb477, 1, none⟩) (Kd.S_far (p := ⟨gb477, 0, none⟩) (Kd.S_types HO468.out BK477.out (by decide)) (fun _ hk => hk.2) (.slice Ao54 t472.length co54)) (fun _ hk => hk.2) (.int .i64 t475)) (fun _ h_ => h_.1))) (Kd.R_base ho0) hb); replace HO474 := Aside0.mk (Kd.S_elder' (by (with_reducible repeat (first | apply Kd.S_alloc | apply Kd.S_drewN | apply Kd.S_drew)); exact (Kd.S_mono (Kd.S_far (p := ⟨gb477, 1, none⟩) (Kd.S_far (p := ⟨gb477, 0, none⟩) (Kd.S_types HO474.out BK477.out (by decide)) (fun _ hk => hk.2) (.slice Ao54 t472.length co54)) (fun _ hk => hk.2) (.int .i64 t475)) (fun _ h_ => h_.1))) (Kd.R_base ho0) hb); replace BK454 := kb_ BK454 hb; replace BK471 := kb_ BK471 hb; replace BK477 := kp_ #[.slice Ao54 t472.length co54, .int .i64 t475] BK477 hb; replace HB := Aside0.mk (below_step oB hb); (try clear hk); obtain ⟨Ao59, co59, eo59⟩ := Kd.R_slice HO480.out; subst eo59; obtain ⟨⟨_, _⟩, _, _⟩ := z2 BK454) | (go_at_call 19; (with_reducible refine (impl_UsageOf.calls k _ _ t458 t461 t482 _ ?side1 ?side2 A23.out).mono ?_); (case side1 => repeat (first | exact (Kd.S_reads' HO460.out).2.2 | (with_reducible refine Kd.C_alloc ?_ _) | (with_reducible refine Kd.C_drewN ?_ _) | (with_reducible refine Kd.C_drew ?_))); (case side2 => exact (Kd.S_reads' HO460.out).2.1); rintro e w61 ⟨rfl, hb⟩; replace HO447 := Aside0.mk (Kd.S_below (by (with_reducible repeat (first | apply Kd.S_alloc | apply Kd.S_drewN | apply Kd.S_drew)); exact HO447.out) hb); replace HO451 := Aside0.mk (Kd.S_below (by (with_reducible repeat (first | apply Kd.S_alloc | apply Kd.S_drewN | apply Kd.S_drew)); exact HO451.out) hb); replace HO457 := kr_ HO457 hb; replace HO460 := Aside0.mk (Kd.S_below (by (with_reducible repeat (first | apply Kd.S_alloc | apply Kd.S_drewN | apply Kd.S_drew)); exact HO460.out) hb); replace HO465 := kr_ HO465 hb; replace HO468 := Aside0.mk (Kd.S_below (by (with_reducible repeat (first | apply Kd.S_alloc | apply Kd.S_drewN | apply Kd.S_drew)); exact HO468.out) hb); replace HO474 := Aside0.mk (Kd.S_below (by (with_reducible repeat (first | apply Kd.S_alloc | apply Kd.S_drewN | apply Kd.S_drew)); exact HO474.out) hb); replace HO480 := kr_ HO480 hb; replace BK454 := kb_ BK454 hb; replace BK471 := kb_ BK471 hb; replace BK477 := kb_ BK477 hb; replace HB := Aside0.mk (below_step oB hb)))
            go_ret
            exact ⟨by first | rfl | (simp [errW_none, errW_some] <;> rfl) | (simp only [← hji7, ← hji11]; first | rfl | (simp [errW_none, errW_some] <;> rfl)) | (simp [*, errW_none, errW_some] <;> rfl), oB⟩
           ·rw [if_neg c22] at H
            cases H
          ·rw [if_neg c21] at H
           cases H
         ·rw [if_neg c20] at H
          cases H
        ·rw [if_neg c19] at H
         cases H
       ·rw [if_neg c18] at H
        cases H
      ·rw [if_neg c17] at H
       cases H
     ·rw [if_neg c13] at H
      exact absurd H (by simp)
    ·rw [if_neg c12] at H
     exact absurd H (by simp)
   ·rw [if_neg c9] at H
    exact absurd H (by simp)
  ·rw [if_neg c8] at H
   exact absurd H (by simp)

/-- THE ONE PURE STATEMENT of laws_FnBigFile: yours. -/
def laws_FnBigFile.Pure : Prop := ∀ (l0 : List Int), l0.length ≤ maxLen → l0.length * 1 ≤ 140737488351232 → (∀ x ∈ l0, (Lit.int .u8 x).wf = true) → ∃ k, laws_FnBigFile.f k l0 = some true
theorem laws_FnBigFile.walk (P : laws_FnBigFile.Pure) (a0 : Option Addr) (len0 cap0 : Nat) (z0 : List Int) (w : World) (w0 : (a0 = none ∧ len0 = 0 ∧ cap0 = 0 ∧ z0 = []) ∨ ∃ x, a0 = some x ∧ len0 ≤ cap0 ∧ cap0 ≤ maxLen ∧ z0.length = cap0 ∧ (∀ i, i < z0.length → w.cell? (x.add i) = some (.int .u8 (z0.getD i 0))) ∧ ∀ n ∈ z0, (Lit.int .u8 n).wf = true) (y0 : len0 * 1 ≤ 140737488351232) (hG : GOk w) :
  Calls Tryz.prog 5 #[.slice a0 len0 cap0] w fun e w' => e = .returned (.bool true) ∧ Below w.heap.size w w' := by
 obtain ⟨l0, rfl, hr0, hm0, hw0, hc0⟩ := ReadsInt.ofRowC w0
 obtain ⟨k, h⟩ := P l0 hm0 y0 hw0
 refine (laws_FnBigFile.calls k _ _ l0 true w (Kd.C_of_reads (d := (0 : Int)) (h1 := fun _ => rfl) hr0) hc0 h hG).mono ?_
 rintro e w' ⟨rfl, hd⟩
 exact ⟨rfl, hd⟩

end Go.Proofs.YtkcfmbggdkkfeaaGreatDoor.P
